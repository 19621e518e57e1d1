import PyProof.Rows.All
import HandS.Conv
import HandS.Deep
import HandS.Defaults
import HandS.Dict
import HandS.Exc
import HandS.ExcIs
import HandS.ExcOwn
import HandS.FStr
import HandS.ForMost
import HandS.Head0
import HandS.Head1
import HandS.Head2
import HandS.HeadEnd
import HandS.HeadHook1
import HandS.HeadHook2
import HandS.HeadHook4
import HandS.IsInst
import HandS.Iter
import HandS.OwnIter
import HandS.SetFor
import HandS.SortInts
import HandS.SortRule
import HandS.Strs
import HandS.Style
import HandS.Text
import HandS.TryOnly
import HandS.TupAny
import HandS.TupSets
import HandS.WordsExc
import KE.SortData
import OpenK.AllK
import Wide.All
import Wide.FinOn
import PySem.Challenge.RW_alarmcurves_k18_examples
set_option Elab.async false
set_option linter.all false
set_option maxRecDepth 100000
set_option maxHeartbeats 4000000
set_option autoImplicit false
/-! DL1: data over a ghost heap, the world, the readings -/
namespace DL
open PySem PySem.Spec PyProof.Rows L2

abbrev PD := PyData
abbrev St := L2.St
/-- an outcome: a value, an exception by its number, nothing known -/
inductive R (a : Type) where
  | ok (x : a) | exc (c : Nat) | bad
def R.map {a b : Type} (f : a → b) : R a → R b
  | .ok x => .ok (f x)
  | .exc c => .exc c
  | .bad => .bad
/-- with a state behind it -/
def bnd {a b d : Type} (r : R (a × d)) (k : a → d → R (b × d)) : R (b × d) :=
  match r with
  | .ok (x, s) => k x s
  | .exc c => .exc c
  | .bad => .bad
/-- a pure outcome in a state -/
def lft {a d : Type} (r : R a) (s : d) : R (a × d) :=
  match r with
  | .ok x => .ok (x, s)
  | .exc c => .exc c
  | .bad => .bad
def rbd {a b : Type} (r : R a) (k : a → R b) : R b :=
  match r with
  | .ok x => k x
  | .exc c => .exc c
  | .bad => .bad
@[simp] theorem bnd_ok {a b d : Type} (x : a) (s : d) (k : a → d → R (b × d)) : bnd (.ok (x, s)) k = k x s := rfl
@[simp] theorem bnd_exc {a b d : Type} (c : Nat) (k : a → d → R (b × d)) : bnd (.exc c) k = .exc c := rfl
@[simp] theorem bnd_bad {a b d : Type} (k : a → d → R (b × d)) : bnd .bad k = .bad := rfl
@[simp] theorem lft_ok {a d : Type} (x : a) (s : d) : lft (.ok x) s = .ok (x, s) := rfl
@[simp] theorem lft_exc {a d : Type} (c : Nat) (s : d) : lft (.exc c : R a) s = .exc c := rfl
@[simp] theorem lft_bad {a d : Type} (s : d) : lft (.bad : R a) s = .bad := rfl
@[simp] theorem rbd_ok {a b : Type} (x : a) (k : a → R b) : rbd (.ok x) k = k x := rfl
@[simp] theorem rbd_exc {a b : Type} (c : Nat) (k : a → R b) : rbd (.exc c) k = .exc c := rfl
@[simp] theorem rbd_bad {a b : Type} (k : a → R b) : rbd .bad k = .bad := rfl
abbrev Env := List (Option PD)

/-! ### data in a ghost heap -/
mutual
inductive Dg (G : Hp) : V → PD → Prop
  | non : Dg G .non .none
  | bl (b : Bool) : Dg G (.bl b) (.bool b)
  | int (i : Int) : Dg G (.int i) (.int i)
  | str (x : Str) : Dg G (.str x) (.str x)
  | lst {a : Addr} {xs : List V} {ds : List PD} : G a = some (.lst xs) → DgAll G xs ds → Dg G (.ref a) (.list ds)
  | tup {a : Addr} {xs : List V} {ds : List PD} : G a = some (.tup xs) → DgAll G xs ds → Dg G (.ref a) (.tuple ds)
inductive DgAll (G : Hp) : List V → List PD → Prop
  | nil : DgAll G [] []
  | cons {v : V} {vs : List V} {d : PD} {ds : List PD} : Dg G v d → DgAll G vs ds → DgAll G (v :: vs) (d :: ds)
end
abbrev Sub (G G' : Hp) : Prop := ∀ a o, G a = some o → G' a = some o
section
variable {G G' H : Hp} {v : V} {vs ws : List V} {d : PD} {ds es : List PD}
mutual
theorem Dg.mono (h : Sub G G') : ∀ {v : V} {d : PD}, Dg G v d → Dg G' v d
  | _, _, .non => .non
  | _, _, .bl b => .bl b
  | _, _, .int i => .int i
  | _, _, .str x => .str x
  | _, _, .lst e a => .lst (h _ _ e) (DgAll.mono h a)
  | _, _, .tup e a => .tup (h _ _ e) (DgAll.mono h a)
theorem DgAll.mono (h : Sub G G') : ∀ {vs : List V} {ds : List PD}, DgAll G vs ds → DgAll G' vs ds
  | _, _, .nil => .nil
  | _, _, .cons a b => .cons (Dg.mono h a) (DgAll.mono h b)
end
mutual
theorem Dg.dp {K : PySem.W.Frag} (h : Sub G H) : ∀ {v : V} {d : PD}, Dg G v d → Dp K H v d
  | _, _, .non => .non
  | _, _, .bl b => .bl b
  | _, _, .int i => .int i
  | _, _, .str x => .str x
  | _, _, .lst e a => .lst (SqL.of (h _ _ e)) (DgAll.dp h a)
  | _, _, .tup e a => .tup (SqT.of (h _ _ e)) (DgAll.dp h a)
theorem DgAll.dp {K : PySem.W.Frag} (h : Sub G H) : ∀ {vs : List V} {ds : List PD}, DgAll G vs ds → DpAll K H vs ds
  | _, _, .nil => .nil
  | _, _, .cons a b => .cons (Dg.dp h a) (DgAll.dp h b)
end
theorem DgAll.len : ∀ {vs : List V} {ds : List PD}, DgAll G vs ds → vs.length = ds.length
  | _, _, .nil => rfl
  | _, _, .cons _ b => by simp [b.len]
theorem DgAll.get : ∀ {vs : List V} {ds : List PD} {i : Nat} {d : PD}, DgAll G vs ds → ds[i]? = some d → ∃ v, vs[i]? = some v ∧ Dg G v d
  | _, _, _, _, .nil, e => by simp at e
  | _, _, 0, _, .cons a _, e => by simp at e; subst e; exact ⟨_, rfl, a⟩
  | _, _, i + 1, d, .cons _ b, e => by
    obtain ⟨v, h1, h2⟩ := DgAll.get (i := i) (d := d) b (by simpa using e)
    exact ⟨v, by simpa using h1, h2⟩
theorem DgAll.app : ∀ {vs ws : List V} {ds es : List PD}, DgAll G vs ds → DgAll G ws es → DgAll G (vs ++ ws) (ds ++ es)
  | _, _, _, _, .nil, s => s
  | _, _, _, _, .cons r t, s => .cons r (DgAll.app t s)
theorem DgAll.take : ∀ {vs : List V} {ds : List PD} (n : Nat), DgAll G vs ds → DgAll G (vs.take n) (ds.take n)
  | _, _, 0, _ => .nil
  | _, _, _ + 1, .nil => .nil
  | _, _, n + 1, .cons r t => .cons r (DgAll.take n t)
theorem DgAll.drop : ∀ {vs : List V} {ds : List PD} (n : Nat), DgAll G vs ds → DgAll G (vs.drop n) (ds.drop n)
  | _, _, 0, r => r
  | _, _, _ + 1, .nil => .nil
  | _, _, n + 1, .cons _ t => DgAll.drop n t
theorem DgAll.rev : ∀ {vs : List V} {ds : List PD}, DgAll G vs ds → DgAll G vs.reverse ds.reverse
  | _, _, .nil => .nil
  | _, _, .cons r t => by
    rw [List.reverse_cons, List.reverse_cons]
    exact DgAll.app (DgAll.rev t) (.cons r .nil)
theorem Dg.of_int {i : Int} (h : Dg G v (.int i)) : v = .int i := by cases h; rfl
theorem Dg.of_bl {b : Bool} (h : Dg G v (.bool b)) : v = .bl b := by cases h; rfl
theorem Dg.of_str {x : Str} (h : Dg G v (.str x)) : v = .str x := by cases h; rfl
theorem Dg.of_non (h : Dg G v .none) : v = .non := by cases h; rfl
theorem Dg.of_lst (h : Dg G v (.list ds)) : ∃ a xs, v = .ref a ∧ G a = some (.lst xs) ∧ DgAll G xs ds := by
  cases h with
  | lst e a => exact ⟨_, _, rfl, e, a⟩
theorem Dg.of_tup (h : Dg G v (.tuple ds)) : ∃ a xs, v = .ref a ∧ G a = some (.tup xs) ∧ DgAll G xs ds := by
  cases h with
  | tup e a => exact ⟨_, _, rfl, e, a⟩
theorem DgAll.ints : ∀ {vs : List V} {ns : List Int}, DgAll G vs (ns.map PyData.int) → vs = ns.map V.int
  | _, [], h => by cases h; rfl
  | _, _ :: _, h => by
    cases h with
    | cons a b => rw [a.of_int, DgAll.ints b]; rfl
theorem DgAll.of_ints : ∀ (ns : List Int), DgAll G (ns.map V.int) (ns.map PyData.int)
  | [] => .nil
  | n :: ns => .cons (.int n) (DgAll.of_ints ns)
theorem DgAll.bools : ∀ {vs : List V} {ns : List Bool}, DgAll G vs (ns.map PyData.bool) → vs = ns.map V.bl
  | _, [], h => by cases h; rfl
  | _, _ :: _, h => by
    cases h with
    | cons a b => rw [a.of_bl, DgAll.bools b]; rfl
end

/-! ### the world: tokens, classes of errors, what may change -/
structure Wd where
  d : Type
  fp : Addr → Prop
  rep : d → Hp → Hp → Prop
  tk : Nat → V
  cls : Nat → Addr
  keep : ∀ {s : d} {G H G' H' : Hp}, rep s G H → Sub G G' → (∀ a o, fp a → H a = some o → H' a = some o) → rep s G' H'
def tokD (n : Nat) : PD := .dict [(.int n, .none)]
/-- a value: data, or a token -/
def Rp (tk : Nat → V) (G : Hp) (v : V) (d : PD) : Prop := Dg G v d ∨ ∃ n, d = tokD n ∧ v = tk n
theorem Rp.mono {tk : Nat → V} {G G' : Hp} {v : V} {d : PD} (h : Sub G G') : Rp tk G v d → Rp tk G' v d
  | .inl a => .inl (a.mono h)
  | .inr a => .inr a
/-- what is no token is data -/
theorem Rp.dg {tk : Nat → V} {G : Hp} {v : V} {d : PD} (h : Rp tk G v d) (n : ∀ k, d ≠ tokD k) : Dg G v d := by
  rcases h with h | ⟨k, e, _⟩
  · exact h
  · exact absurd e (n k)
inductive RpAll (tk : Nat → V) (G : Hp) : List V → List PD → Prop
  | nil : RpAll tk G [] []
  | cons {v : V} {vs : List V} {d : PD} {ds : List PD} : Rp tk G v d → RpAll tk G vs ds → RpAll tk G (v :: vs) (d :: ds)
theorem RpAll.mono {tk : Nat → V} {G G' : Hp} (h : Sub G G') : ∀ {vs : List V} {ds : List PD}, RpAll tk G vs ds → RpAll tk G' vs ds
  | _, _, .nil => .nil
  | _, _, .cons a b => .cons (a.mono h) (b.mono h)
theorem RpAll.len {tk : Nat → V} {G : Hp} : ∀ {vs : List V} {ds : List PD}, RpAll tk G vs ds → vs.length = ds.length
  | _, _, .nil => rfl
  | _, _, .cons _ b => by simp [b.len]
theorem RpAll.get {tk : Nat → V} {G : Hp} : ∀ {vs : List V} {ds : List PD} {i : Nat} {d : PD}, RpAll tk G vs ds → ds[i]? = some d → ∃ v, vs[i]? = some v ∧ Rp tk G v d
  | _, _, _, _, .nil, e => by simp at e
  | _, _, 0, _, .cons a _, e => by simp at e; subst e; exact ⟨_, rfl, a⟩
  | _, _, i + 1, d, .cons _ b, e => by
    obtain ⟨v, h1, h2⟩ := RpAll.get (i := i) (d := d) b (by simpa using e)
    exact ⟨v, by simpa using h1, h2⟩
/-- no dict: no token -/
def isD : PD → Bool
  | .dict _ => false
  | _ => true
theorem isD_tok {d : PD} (h : isD d = true) : ∀ k, d ≠ tokD k := fun k e => by subst e; cases h
def allD (ds : List PD) : Bool := ds.all isD
theorem RpAll.dg {tk : Nat → V} {G : Hp} : ∀ {vs : List V} {ds : List PD}, RpAll tk G vs ds → allD ds = true → DgAll G vs ds
  | _, _, .nil, _ => .nil
  | _, _, .cons a b, h => by
    have h' := h
    simp only [allD, List.all_cons, Bool.and_eq_true] at h'
    exact .cons (a.dg (isD_tok h'.1)) (RpAll.dg b h'.2)
theorem DgAll.rp {tk : Nat → V} {G : Hp} : ∀ {vs : List V} {ds : List PD}, DgAll G vs ds → RpAll tk G vs ds
  | _, _, .nil => .nil
  | _, _, .cons a b => .cons (.inl a) (DgAll.rp b)

structure Sit (W : Wd) (G H : Hp) (s : W.d) : Prop where
  sub : Sub G H
  fpG : ∀ a, W.fp a → G a = none
  fpH : ∀ a, W.fp a → H a ≠ none
  rep : W.rep s G H
structure Gr (fp : Addr → Prop) (G H G' H' : Hp) : Prop where
  g : Sub G G'
  h : ∀ a o, ¬ fp a → H a = some o → H' a = some o
  dom : ∀ a, H' a = none → H a = none
  new : ∀ a o, G' a = some o → G a = some o ∨ H a = none
theorem Gr.refl {fp : Addr → Prop} {G H : Hp} : Gr fp G H G H := ⟨fun _ _ h => h, fun _ _ _ h => h, fun _ h => h, fun _ _ h => .inl h⟩
theorem Gr.trans {fp : Addr → Prop} {G H G1 H1 G2 H2 : Hp} (a : Gr fp G H G1 H1) (b : Gr fp G1 H1 G2 H2) : Gr fp G H G2 H2 :=
  ⟨fun x o h => b.g x o (a.g x o h), fun x o n h => b.h x o n (a.h x o n h), fun x h => a.dom x (b.dom x h), fun x o h => by
    rcases b.new x o h with z | z
    · exact a.new x o z
    · exact .inr (a.dom x z)⟩
theorem Gr.weak {fp fp' : Addr → Prop} {G H G1 H1 : Hp} (a : Gr fp G H G1 H1) (h : ∀ x, fp x → fp' x) : Gr fp' G H G1 H1 :=
  ⟨a.g, fun x o n e => a.h x o (fun z => n (h x z)) e, a.dom, a.new⟩
theorem sub_upd {G : Hp} {p : Addr} {o : HO} (h : G p = none) : Sub G (upd G p o) := fun a u e => by
  rw [upd_ne (ne_of_none e h)]; exact e
/-- a new object, in the ghost heap too -/
theorem Gr.alloc {fp : Addr → Prop} {G H : Hp} {p : Addr} {o : HO} (s : Sub G H) (h : H p = none) : Gr fp G H (upd G p o) (upd H p o) := by
  have hg : G p = none := by
    cases e : G p with
    | none => rfl
    | some u => rw [s _ _ e] at h; cases h
  refine ⟨sub_upd hg, fun a u _ e => sub_upd h a u e, fun a e => ?_, fun a u e => ?_⟩
  · by_cases z : a = p
    · subst z; exact h
    · rwa [upd_ne z] at e
  · by_cases z : a = p
    · subst z; exact .inr h
    · rw [upd_ne z] at e; exact .inl e
/-- a new object that only the heap knows -/
theorem Gr.allocH {fp : Addr → Prop} {G H : Hp} {p : Addr} {o : HO} (h : H p = none) : Gr fp G H G (upd H p o) := by
  refine ⟨fun _ _ e => e, fun a u _ e => sub_upd h a u e, fun a e => ?_, fun a u e => .inl e⟩
  by_cases z : a = p
  · subst z; exact h
  · rwa [upd_ne z] at e
theorem Sit.alloc {W : Wd} {G H : Hp} {s : W.d} {p : Addr} {o : HO} (S : Sit W G H s) (h : H p = none) : Sit W (upd G p o) (upd H p o) s := by
  have g := Gr.alloc (fp := W.fp) (o := o) S.sub h
  refine ⟨fun a u e => ?_, fun a f => ?_, fun a f z => S.fpH a f (g.dom a z), W.keep S.rep g.g fun a o _ e => sub_upd h a o e⟩
  · by_cases z : a = p
    · subst z; rw [upd_same] at e ⊢; exact e
    · rw [upd_ne z] at e ⊢; exact S.sub a u e
  · have z : a ≠ p := fun z => S.fpH a f (by rw [z]; exact h)
    rw [upd_ne z]; exact S.fpG a f
theorem Sit.allocH {W : Wd} {G H : Hp} {s : W.d} {p : Addr} {o : HO} (S : Sit W G H s) (h : H p = none) : Sit W G (upd H p o) s := by
  refine ⟨fun a u e => sub_upd h a u (S.sub a u e), S.fpG, fun a f z => S.fpH a f ?_, W.keep S.rep (fun _ _ e => e) fun a o _ e => sub_upd h a o e⟩
  by_cases q : a = p
  · subst q; exact h
  · rwa [upd_ne q] at z
/-- what a pure callee leaves -/
theorem Sit.pure {W : Wd} {G H G' H' : Hp} {s : W.d} (S : Sit W G H s) (g : Gr (fun _ => False) G H G' H') (sb : Sub G' H') : Sit W G' H' s := by
  refine ⟨sb, fun a f => ?_, fun a f z => S.fpH a f (g.dom a z), W.keep S.rep g.g fun a o _ e => g.h a o (fun z => z) e⟩
  cases e : G' a with
  | none => rfl
  | some o =>
    rcases g.new a o e with z | z
    · rw [S.fpG a f] at z; cases z
    · exact absurd z (S.fpH a f)

/-! ### slots -/
structure RS (W : Wd) (G H H0 : Hp) (O : List Nat) (σ : St) (ρ : Env) : Prop where
  len : σ.length = ρ.length
  plain : ∀ i d, ρ[i]? = some (some d) → i ∉ O → ∃ v, σ[i]? = some (some v) ∧ Rp W.tk G v d
  own : ∀ i d, ρ[i]? = some (some d) → i ∈ O → ∃ p vs ds, σ[i]? = some (some (.ref p)) ∧ d = .list ds ∧ H p = some (.lst vs) ∧ DgAll G vs ds ∧ G p = none ∧ H0 p = none ∧ ¬ W.fp p
  apart : ∀ i j p d e, i ∈ O → j ∈ O → ρ[i]? = some (some d) → ρ[j]? = some (some e) → σ[i]? = some (some (.ref p)) → σ[j]? = some (some (.ref p)) → i = j
theorem RS.step {W : Wd} {G H H0 G' H' : Hp} {O : List Nat} {σ : St} {ρ : Env} (r : RS W G H H0 O σ ρ) (g : Gr W.fp G H G' H') : RS W G' H' H0 O σ ρ := by
  refine ⟨r.len, fun i d e n => ?_, fun i d e m => ?_, r.apart⟩
  · obtain ⟨v, h1, h2⟩ := r.plain i d e n
    exact ⟨v, h1, h2.mono g.g⟩
  · obtain ⟨p, vs, ds, h1, h2, h3, h4, h5, h6, h7⟩ := r.own i d e m
    refine ⟨p, vs, ds, h1, h2, g.h p _ h7 h3, h4.mono g.g, ?_, h6, h7⟩
    cases q : G' p with
    | none => rfl
    | some o =>
      rcases g.new p o q with z | z
      · rw [h5] at z; cases z
      · rw [h3] at z; cases z

/-- the base of a body: the world, the entry's heaps, what is wanted of an exception -/
structure Bs where
  W : Wd
  G0 : Hp
  H0 : Hp
  E : XK
structure At (B : Bs) (O : List Nat) (σ : St) (H G : Hp) (ρ : Env) (s : B.W.d) : Prop where
  sit : Sit B.W G H s
  gr : Gr B.W.fp B.G0 B.H0 G H
  rs : RS B.W G H B.H0 O σ ρ
theorem At.step {B : Bs} {O : List Nat} {σ : St} {H G G' H' : Hp} {ρ : Env} {s s' : B.W.d} (a : At B O σ H G ρ s) (g : Gr B.W.fp G H G' H') (S : Sit B.W G' H' s') : At B O σ H' G' ρ s' :=
  ⟨S, a.gr.trans g, a.rs.step g⟩

/-! ### readings -/
abbrev Mx (B : Bs) (a : Type) := Env → B.W.d → R (a × B.W.d)
def PostE (B : Bs) (G H : Hp) (r : R (PD × B.W.d)) (Q : VK) : Prop :=
  match r with
  | .ok (d, s') => ∀ v G' H', Gr B.W.fp G H G' H' → Sit B.W G' H' s' → Rp B.W.tk G' v d → Q v H'
  | .exc c => ∀ G' H', Gr B.W.fp G H G' H' → B.E (.ref (B.W.cls c)) none H'
  | .bad => False
def PostT (B : Bs) (G H : Hp) (r : R (Bool × B.W.d)) (Q : Bool → Hp → Prop) : Prop :=
  match r with
  | .ok (b, s') => ∀ G' H', Gr B.W.fp G H G' H' → Sit B.W G' H' s' → Q b H'
  | .exc c => ∀ G' H', Gr B.W.fp G H G' H' → B.E (.ref (B.W.cls c)) none H'
  | .bad => False
def PostA (B : Bs) (G H : Hp) (r : R (List PD × B.W.d)) (Q : List V → Hp → Prop) : Prop :=
  match r with
  | .ok (ds, s') => ∀ vs G' H', Gr B.W.fp G H G' H' → Sit B.W G' H' s' → RpAll B.W.tk G' vs ds → Q vs H'
  | .exc c => ∀ G' H', Gr B.W.fp G H G' H' → B.E (.ref (B.W.cls c)) none H'
  | .bad => False
theorem PostE.mono {B : Bs} {G H G1 H1 : Hp} {r : R (PD × B.W.d)} {Q : VK} (g : Gr B.W.fp G H G1 H1) (h : PostE B G H r Q) : PostE B G1 H1 r Q := by
  cases r with
  | ok x => exact fun v G' H' g' S' R' => h v G' H' (g.trans g') S' R'
  | exc c => exact fun G' H' g' => h G' H' (g.trans g')
  | bad => exact h
theorem PostT.mono {B : Bs} {G H G1 H1 : Hp} {r : R (Bool × B.W.d)} {Q : Bool → Hp → Prop} (g : Gr B.W.fp G H G1 H1) (h : PostT B G H r Q) : PostT B G1 H1 r Q := by
  cases r with
  | ok x => exact fun G' H' g' S' => h G' H' (g.trans g') S'
  | exc c => exact fun G' H' g' => h G' H' (g.trans g')
  | bad => exact h
theorem PostA.mono {B : Bs} {G H G1 H1 : Hp} {r : R (List PD × B.W.d)} {Q : List V → Hp → Prop} (g : Gr B.W.fp G H G1 H1) (h : PostA B G H r Q) : PostA B G1 H1 r Q := by
  cases r with
  | ok x => exact fun v G' H' g' S' R' => h v G' H' (g.trans g') S' R'
  | exc c => exact fun G' H' g' => h G' H' (g.trans g')
  | bad => exact h
def rdE (B : Bs) (O : List Nat) (f : Mx B PD) : TE := fun σ H Q => ∃ G ρ s, At B O σ H G ρ s ∧ PostE B G H (f ρ s) Q
def rdT (B : Bs) (O : List Nat) (f : Mx B Bool) : TT := fun σ H Q => ∃ G ρ s, At B O σ H G ρ s ∧ PostT B G H (f ρ s) Q
def rdA (B : Bs) (O : List Nat) (f : Mx B (List PD)) : TA := fun σ H Q => ∃ G ρ s, At B O σ H G ρ s ∧ PostA B G H (f ρ s) Q
abbrev DE (X : Cx) (B : Bs) (O : List Nat) (e : Expr) (f : Mx B PD) : Prop := PE X e (rdE B O f)
abbrev DT (X : Cx) (B : Bs) (O : List Nat) (e : Expr) (f : Mx B Bool) : Prop := PT X e (rdT B O f)
abbrev DA (X : Cx) (B : Bs) (O : List Nat) (es : List Expr) (f : Mx B (List PD)) : Prop := PA X es (rdA B O f)
theorem PE.imp {X : Cx} {e : Expr} {t t' : TE} (h : PE X e t) (i : ∀ σ H Q, t' σ H Q → t σ H Q) : PE X e t' := ⟨fun pins s σ H Q I q => h.run pins s σ H Q I (i σ H Q q)⟩
theorem PT.imp {X : Cx} {e : Expr} {t t' : TT} (h : PT X e t) (i : ∀ σ H Q, t' σ H Q → t σ H Q) : PT X e t' := ⟨fun pins s σ H Q I q => h.run pins s σ H Q I (i σ H Q q)⟩
theorem PA.imp {X : Cx} {es : List Expr} {t t' : TA} (h : PA X es t) (i : ∀ σ H Q, t' σ H Q → t σ H Q) : PA X es t' := ⟨fun pos pins s σ H Q I q => h.run pos pins s σ H Q I (i σ H Q q)⟩
theorem PS.imp {X : Cx} {st : Stmt} {t t' : TS} (h : PS X st t) (i : ∀ D σ H, t' D σ H → t D σ H) : PS X st t' := ⟨fun pins s σ H D I q => h.run pins s σ H D I (i D σ H q)⟩
theorem PSs.imp {X : Cx} {st : List Stmt} {t t' : TS} (h : PSs X st t) (i : ∀ D σ H, t' D σ H → t D σ H) : PSs X st t' := ⟨fun pins s σ H D I q => h.run pins s σ H D I (i D σ H q)⟩
theorem PI.imp {X : Cx} {tg e : Expr} {t t' : TI} (h : PI X tg e t) (i : ∀ σ H R, t' σ H R → t σ H R) : PI X tg e t' := ⟨fun pins s σ H R I q => h.run pins s σ H R I (i σ H R q)⟩

/-! ### one step after another -/
/-- an expression first -/
theorem rdE.fst {B : Bs} {O : List Nat} {f : Mx B PD} {σ : St} {H : Hp} {Q : VK} {G : Hp} {ρ : Env} {s : B.W.d} {b : Type} {k : PD → B.W.d → R (b × B.W.d)}
    (a : At B O σ H G ρ s) (P : Hp → Hp → R (b × B.W.d) → Prop) (hm : ∀ {G1 H1 r}, Gr B.W.fp G H G1 H1 → P G H r → P G1 H1 r) (he : ∀ {c}, P G H (.exc c) → ∀ G' H', Gr B.W.fp G H G' H' → B.E (.ref (B.W.cls c)) none H') (hb : ¬ P G H .bad)
    (p : P G H (bnd (f ρ s) k)) (h : ∀ v G1 H1 d s1, At B O σ H1 G1 ρ s1 → Gr B.W.fp G H G1 H1 → Rp B.W.tk G1 v d → P G1 H1 (k d s1) → Q v H1) : rdE B O f σ H Q := by
  refine ⟨G, ρ, s, a, ?_⟩
  cases e : f ρ s with
  | ok x =>
    obtain ⟨d, s1⟩ := x
    rw [e] at p
    exact fun v G1 H1 g S r => h v G1 H1 d s1 (a.step g S) g r (hm g p)
  | exc c => rw [e] at p; exact he p
  | bad => rw [e] at p; exact (hb p).elim
theorem rdE.then {B : Bs} {O : List Nat} {f : Mx B PD} {σ : St} {H : Hp} {Q Q' : VK} {G : Hp} {ρ : Env} {s : B.W.d} {k : PD → B.W.d → R (PD × B.W.d)}
    (a : At B O σ H G ρ s) (p : PostE B G H (bnd (f ρ s) k) Q') (h : ∀ v G1 H1 d s1, At B O σ H1 G1 ρ s1 → Gr B.W.fp G H G1 H1 → Rp B.W.tk G1 v d → PostE B G1 H1 (k d s1) Q' → Q v H1) : rdE B O f σ H Q :=
  rdE.fst a (fun G H r => PostE B G H r Q') (fun g p => p.mono g) (fun p => p) (fun p => p) p h
theorem rdE.thenT {B : Bs} {O : List Nat} {f : Mx B PD} {σ : St} {H : Hp} {Q : VK} {Q' : Bool → Hp → Prop} {G : Hp} {ρ : Env} {s : B.W.d} {k : PD → B.W.d → R (Bool × B.W.d)}
    (a : At B O σ H G ρ s) (p : PostT B G H (bnd (f ρ s) k) Q') (h : ∀ v G1 H1 d s1, At B O σ H1 G1 ρ s1 → Gr B.W.fp G H G1 H1 → Rp B.W.tk G1 v d → PostT B G1 H1 (k d s1) Q' → Q v H1) : rdE B O f σ H Q :=
  rdE.fst a (fun G H r => PostT B G H r Q') (fun g p => p.mono g) (fun p => p) (fun p => p) p h
theorem rdE.thenA {B : Bs} {O : List Nat} {f : Mx B PD} {σ : St} {H : Hp} {Q : VK} {Q' : List V → Hp → Prop} {G : Hp} {ρ : Env} {s : B.W.d} {k : PD → B.W.d → R (List PD × B.W.d)}
    (a : At B O σ H G ρ s) (p : PostA B G H (bnd (f ρ s) k) Q') (h : ∀ v G1 H1 d s1, At B O σ H1 G1 ρ s1 → Gr B.W.fp G H G1 H1 → Rp B.W.tk G1 v d → PostA B G1 H1 (k d s1) Q' → Q v H1) : rdE B O f σ H Q :=
  rdE.fst a (fun G H r => PostA B G H r Q') (fun g p => p.mono g) (fun p => p) (fun p => p) p h
/-- a test first -/
theorem rdT.fst {B : Bs} {O : List Nat} {f : Mx B Bool} {σ : St} {H : Hp} {Q : Bool → Hp → Prop} {G : Hp} {ρ : Env} {s : B.W.d} {b : Type} {k : Bool → B.W.d → R (b × B.W.d)}
    (a : At B O σ H G ρ s) (P : Hp → Hp → R (b × B.W.d) → Prop) (hm : ∀ {G1 H1 r}, Gr B.W.fp G H G1 H1 → P G H r → P G1 H1 r) (he : ∀ {c}, P G H (.exc c) → ∀ G' H', Gr B.W.fp G H G' H' → B.E (.ref (B.W.cls c)) none H') (hb : ¬ P G H .bad)
    (p : P G H (bnd (f ρ s) k)) (h : ∀ x G1 H1 s1, At B O σ H1 G1 ρ s1 → Gr B.W.fp G H G1 H1 → P G1 H1 (k x s1) → Q x H1) : rdT B O f σ H Q := by
  refine ⟨G, ρ, s, a, ?_⟩
  cases e : f ρ s with
  | ok x =>
    obtain ⟨d, s1⟩ := x
    rw [e] at p
    exact fun G1 H1 g S => h d G1 H1 s1 (a.step g S) g (hm g p)
  | exc c => rw [e] at p; exact he p
  | bad => rw [e] at p; exact (hb p).elim
theorem rdT.then {B : Bs} {O : List Nat} {f : Mx B Bool} {σ : St} {H : Hp} {Q : Bool → Hp → Prop} {Q' : VK} {G : Hp} {ρ : Env} {s : B.W.d} {k : Bool → B.W.d → R (PD × B.W.d)}
    (a : At B O σ H G ρ s) (p : PostE B G H (bnd (f ρ s) k) Q') (h : ∀ x G1 H1 s1, At B O σ H1 G1 ρ s1 → Gr B.W.fp G H G1 H1 → PostE B G1 H1 (k x s1) Q' → Q x H1) : rdT B O f σ H Q :=
  rdT.fst a (fun G H r => PostE B G H r Q') (fun g p => p.mono g) (fun p => p) (fun p => p) p h
theorem rdT.thenT {B : Bs} {O : List Nat} {f : Mx B Bool} {σ : St} {H : Hp} {Q : Bool → Hp → Prop} {Q' : Bool → Hp → Prop} {G : Hp} {ρ : Env} {s : B.W.d} {k : Bool → B.W.d → R (Bool × B.W.d)}
    (a : At B O σ H G ρ s) (p : PostT B G H (bnd (f ρ s) k) Q') (h : ∀ x G1 H1 s1, At B O σ H1 G1 ρ s1 → Gr B.W.fp G H G1 H1 → PostT B G1 H1 (k x s1) Q' → Q x H1) : rdT B O f σ H Q :=
  rdT.fst a (fun G H r => PostT B G H r Q') (fun g p => p.mono g) (fun p => p) (fun p => p) p h
/-- arguments first -/
theorem rdA.fst {B : Bs} {O : List Nat} {f : Mx B (List PD)} {σ : St} {H : Hp} {Q : List V → Hp → Prop} {G : Hp} {ρ : Env} {s : B.W.d} {b : Type} {k : List PD → B.W.d → R (b × B.W.d)}
    (a : At B O σ H G ρ s) (P : Hp → Hp → R (b × B.W.d) → Prop) (hm : ∀ {G1 H1 r}, Gr B.W.fp G H G1 H1 → P G H r → P G1 H1 r) (he : ∀ {c}, P G H (.exc c) → ∀ G' H', Gr B.W.fp G H G' H' → B.E (.ref (B.W.cls c)) none H') (hb : ¬ P G H .bad)
    (p : P G H (bnd (f ρ s) k)) (h : ∀ vs G1 H1 ds s1, At B O σ H1 G1 ρ s1 → Gr B.W.fp G H G1 H1 → RpAll B.W.tk G1 vs ds → P G1 H1 (k ds s1) → Q vs H1) : rdA B O f σ H Q := by
  refine ⟨G, ρ, s, a, ?_⟩
  cases e : f ρ s with
  | ok x =>
    obtain ⟨d, s1⟩ := x
    rw [e] at p
    exact fun v G1 H1 g S r => h v G1 H1 d s1 (a.step g S) g r (hm g p)
  | exc c => rw [e] at p; exact he p
  | bad => rw [e] at p; exact (hb p).elim
theorem rdA.then {B : Bs} {O : List Nat} {f : Mx B (List PD)} {σ : St} {H : Hp} {Q : List V → Hp → Prop} {Q' : VK} {G : Hp} {ρ : Env} {s : B.W.d} {k : List PD → B.W.d → R (PD × B.W.d)}
    (a : At B O σ H G ρ s) (p : PostE B G H (bnd (f ρ s) k) Q') (h : ∀ vs G1 H1 ds s1, At B O σ H1 G1 ρ s1 → Gr B.W.fp G H G1 H1 → RpAll B.W.tk G1 vs ds → PostE B G1 H1 (k ds s1) Q' → Q vs H1) : rdA B O f σ H Q :=
  rdA.fst a (fun G H r => PostE B G H r Q') (fun g p => p.mono g) (fun p => p) (fun p => p) p h
theorem rdA.thenA {B : Bs} {O : List Nat} {f : Mx B (List PD)} {σ : St} {H : Hp} {Q : List V → Hp → Prop} {Q' : List V → Hp → Prop} {G : Hp} {ρ : Env} {s : B.W.d} {k : List PD → B.W.d → R (List PD × B.W.d)}
    (a : At B O σ H G ρ s) (p : PostA B G H (bnd (f ρ s) k) Q') (h : ∀ vs G1 H1 ds s1, At B O σ H1 G1 ρ s1 → Gr B.W.fp G H G1 H1 → RpAll B.W.tk G1 vs ds → PostA B G1 H1 (k ds s1) Q' → Q vs H1) : rdA B O f σ H Q :=
  rdA.fst a (fun G H r => PostA B G H r Q') (fun g p => p.mono g) (fun p => p) (fun p => p) p h
/-- a pure end: nothing has changed -/
theorem PostE.done {B : Bs} {G H : Hp} {v : V} {d : PD} {s : B.W.d} {Q : VK} (S : Sit B.W G H s) (r : Rp B.W.tk G v d) (p : PostE B G H (.ok (d, s)) Q) : Q v H := p v G H .refl S r
/-- a new list, a new tuple -/
theorem PostE.lst {B : Bs} {G H : Hp} {vs : List V} {ds : List PD} {s : B.W.d} {Q : VK} {p : Addr} (S : Sit B.W G H s) (r : DgAll G vs ds) (q : PostE B G H (.ok (.list ds, s)) Q) (hp : H p = none) : Q (.ref p) (upd H p (.lst vs)) :=
  have g := Gr.alloc (fp := B.W.fp) (o := .lst vs) S.sub hp
  q (.ref p) _ _ g (S.alloc hp) (.inl (.lst upd_same (r.mono g.g)))
theorem PostE.tup {B : Bs} {G H : Hp} {vs : List V} {ds : List PD} {s : B.W.d} {Q : VK} {p : Addr} (S : Sit B.W G H s) (r : DgAll G vs ds) (q : PostE B G H (.ok (.tuple ds, s)) Q) (hp : H p = none) : Q (.ref p) (upd H p (.tup vs)) :=
  have g := Gr.alloc (fp := B.W.fp) (o := .tup vs) S.sub hp
  q (.ref p) _ _ g (S.alloc hp) (.inl (.tup upd_same (r.mono g.g)))
end DL

/-! DL2: expressions -/
namespace DL
open PySem PySem.Spec PyProof.Rows L2

section
variable {X : Cx} {B : Bs} {O : List Nat}

/-! ### names, constants -/
def cVar {d : Type} (i : Nat) : Env → d → R (PD × d) := fun ρ s =>
  match ρ[i]? with
  | some (some d) => .ok (d, s)
  | _ => .bad
theorem de_var (i : Nat) {x : Str} {pos : Pos} (hN : X.N[i]? = some x := by rfl) (hO : i ∉ O := by decide) (hv : Vis X.env.scope x := by first | exact Or.inl rfl | exact Or.inr (Or.inl rfl) | exact Or.inr (Or.inr rfl)) (hd : (x == ("__debug__" : Str)) = false := by decide)
    (hcd : (x == ("__classdict__" : Str)) = false := by decide) : DE X B O (.Name x pos) (cVar i) := by
  refine PE.imp (pe_var hN hv hd hcd) fun σ H Q h => ?_
  obtain ⟨G, ρ, s, a, p⟩ := h
  unfold cVar at p
  cases e : ρ[i]? with
  | none => rw [e] at p; exact p.elim
  | some y =>
    cases y with
    | none => rw [e] at p; exact p.elim
    | some d =>
      rw [e] at p
      obtain ⟨v, h1, h2⟩ := a.rs.plain i d e hO
      exact ⟨v, h1, p.done a.sit h2⟩
def cC {d : Type} (x : PD) : Env → d → R (PD × d) := fun _ s => .ok (x, s)
theorem de_c {e : Expr} {v : V} {d : PD} (h : PE X e (tC v)) (r : ∀ G, Dg G v d) : DE X B O e (cC d) := by
  refine PE.imp h fun σ H Q h => ?_
  obtain ⟨G, ρ, s, a, p⟩ := h
  exact p.done a.sit (.inl (r G))
theorem de_int {i : Int} {j : Nat} {pos : Pos} : DE X B O (.Constant (.int i) j pos) (cC (.int i)) := de_c pe_int fun _ => .int i
theorem de_bl {b : Bool} {j : Nat} {pos : Pos} : DE X B O (.Constant (.bool b) j pos) (cC (.bool b)) := de_c pe_bl fun _ => .bl b
theorem de_non {j : Nat} {pos : Pos} : DE X B O (.Constant .none j pos) (cC .none) := de_c pe_non fun _ => .non
theorem de_str {x : Str} {j : Nat} {pos : Pos} : DE X B O (.Constant (.str x) j pos) (cC (.str x)) := de_c pe_str fun _ => .str x
/-- a module's constant -/
theorem de_gint {x : Str} {i : Int} {t : Tok} {pos : Pos} (hm : X.mg x = some (.int i t)) (hg : Gl X x := by rfl) (hd : (x == ("__debug__" : Str)) = false := by decide) : DE X B O (.Name x pos) (cC (.int i)) := de_c (pe_glob (v := .int i) hg hm ⟨t, rfl⟩ hd) fun _ => .int i
theorem de_gstr {x z : Str} {t : Tok} {pos : Pos} (hm : X.mg x = some (.str z t)) (hg : Gl X x := by rfl) (hd : (x == ("__debug__" : Str)) = false := by decide) : DE X B O (.Name x pos) (cC (.str z)) := de_c (pe_glob (v := .str z) hg hm ⟨t, rfl⟩ hd) fun _ => .str z

/-! ### operators by values -/
/-- what an operator does with data -/
def PostD (G H : Hp) (r : R PD) (Q : VK) : Prop :=
  match r with
  | .ok d => ∀ v G' H', Gr (fun _ => False) G H G' H' → Sub G' H' → Dg G' v d → Q v H'
  | _ => False
def rdO (f : PD → PD → R PD) : R2 := fun x y H Q => ∃ G d e, Sub G H ∧ Dg G x d ∧ Dg G y e ∧ PostD G H (f d e) Q
def DOp (X : Cx) (g : Value → Value → Sem Value) (f : PD → PD → R PD) : Prop := OpR X g (rdO f)
theorem OpR.imp {X : Cx} {g : Value → Value → Sem Value} {r r' : R2} (h : OpR X g r) (i : ∀ x y H Q, r' x y H Q → r x y H Q) : OpR X g r' :=
  fun pins s σ H x y v u Q I rx ry q => h pins s σ H x y v u Q I rx ry (i x y H Q q)
/-- several rules for one operator, by the data at hand -/
theorem OpR.by {X : Cx} {g : Value → Value → Sem Value} {r' : R2} (h : ∀ x y H Q, r' x y H Q → ∃ r, OpR X g r ∧ r x y H Q) : OpR X g r' :=
  fun pins s σ H x y v u Q I rx ry q => by
    obtain ⟨r, hr, q'⟩ := h x y H Q q
    exact hr pins s σ H x y v u Q I rx ry q'
theorem PostD.val {G H : Hp} {d : PD} {v : V} {Q : VK} (p : PostD G H (.ok d) Q) (sb : Sub G H) (r : Dg G v d) : Q v H := p v G H .refl sb r
theorem subA {G H : Hp} {p : Addr} {o : HO} (s : Sub G H) (h : H p = none) : Sub (upd G p o) (upd H p o) := fun a u e => by
  by_cases z : a = p
  · subst z; rw [upd_same] at e ⊢; exact e
  · rw [upd_ne z] at e ⊢; exact s a u e
theorem PostD.lst {G H : Hp} {ds : List PD} {vs : List V} {Q : VK} {p : Addr} (q : PostD G H (.ok (.list ds)) Q) (sb : Sub G H) (r : DgAll G vs ds) (hp : H p = none) : Q (.ref p) (upd H p (.lst vs)) :=
  have g := Gr.alloc (fp := fun _ => False) (o := .lst vs) sb hp
  q (.ref p) _ _ g (subA sb hp) (.lst upd_same (r.mono g.g))
theorem PostD.tup {G H : Hp} {ds : List PD} {vs : List V} {Q : VK} {p : Addr} (q : PostD G H (.ok (.tuple ds)) Q) (sb : Sub G H) (r : DgAll G vs ds) (hp : H p = none) : Q (.ref p) (upd H p (.tup vs)) :=
  have g := Gr.alloc (fp := fun _ => False) (o := .tup vs) sb hp
  q (.ref p) _ _ g (subA sb hp) (.tup upd_same (r.mono g.g))
/-- from data to the world around -/
theorem PostD.of {G H : Hp} {r : R PD} {Q : VK} {s : B.W.d} (S : Sit B.W G H s) (p : PostE B G H (lft r s) Q) (hx : ∀ c, r ≠ .exc c) : PostD G H r Q := by
  cases r with
  | ok d => exact fun v G' H' g sb rp => p v G' H' (g.weak fun _ z => z.elim) (S.pure g sb) (.inl rp)
  | exc c => exact (hx c rfl).elim
  | bad => exact p
def isOk (r : R PD) : R PD := match r with
  | .ok d => .ok d
  | _ => .bad
/-- two data, one operation; tokens are none -/
def cOp {d : Type} (f : PD → PD → R PD) (a b : Env → d → R (PD × d)) : Env → d → R (PD × d) := fun ρ s =>
  bnd (a ρ s) fun x s1 => bnd (b ρ s1) fun y s2 => if isD x && isD y then lft (isOk (f x y)) s2 else .bad
theorem isOk_nx (r : R PD) (c : Nat) : isOk r ≠ .exc c := by cases r <;> simp [isOk]
theorem PostD.isOk {G H : Hp} {r : R PD} {Q : VK} (p : PostD G H (isOk r) Q) : PostD G H r Q := by
  cases r with
  | ok d => exact p
  | exc c => exact p
  | bad => exact p
theorem rd_op {f : PD → PD → R PD} {fa fb : Mx B PD} {σ : St} {H : Hp} {Q : VK} (h : rdE B O (cOp f fa fb) σ H Q) : tOp (rdO f) (rdE B O fa) (rdE B O fb) σ H Q := by
  obtain ⟨G, ρ, s, a, p⟩ := h
  refine rdE.then a p fun x G1 H1 dx s1 a1 g1 rx p1 => ?_
  refine rdE.then a1 p1 fun y G2 H2 dy s2 a2 g2 ry p2 => ?_
  by_cases hd : (isD dx && isD dy) = true
  · rw [if_pos hd] at p2
    have h' := hd
    rw [Bool.and_eq_true] at h'
    exact ⟨G2, dx, dy, a2.sit.sub, (rx.mono g2.g).dg (isD_tok h'.1), ry.dg (isD_tok h'.2), (PostD.of a2.sit p2 (isOk_nx _)).isOk⟩
  · rw [if_neg hd] at p2; exact p2.elim
theorem de_op {op : Operator} {f : PD → PD → R PD} {a b : Expr} {fa fb : Mx B PD} {pos : Pos} (ho : DOp X (binaryOp op) f) (ha : DE X B O a fa) (hb : DE X B O b fb) : DE X B O (.BinOp a op b pos) (cOp f fa fb) :=
  PE.imp (pe_op ho ha hb) fun σ H Q h => rd_op h
theorem de_cmp {op : CmpOp} {f : PD → PD → R PD} {a b : Expr} {fa fb : Mx B PD} {pos : Pos} (ho : DOp X (compareOp op) f) (ha : DE X B O a fa) (hb : DE X B O b fb) (hm : behindInMarks op b = false := by first | exact nobehind _ (by decide) (by decide) | rfl) : DE X B O (.Compare a [op] [b] pos) (cOp f fa fb) :=
  PE.imp (pe_cmpR ho ha hb hm) fun σ H Q h => rd_op h
/-- one operand -/
def rdU (f : PD → R PD) : V → Hp → VK → Prop := fun x H Q => ∃ G d, Sub G H ∧ Dg G x d ∧ PostD G H (f d) Q
def cUn {d : Type} (f : PD → R PD) (a : Env → d → R (PD × d)) : Env → d → R (PD × d) := fun ρ s =>
  bnd (a ρ s) fun x s1 => if isD x then lft (isOk (f x)) s1 else .bad
theorem rd_un {f : PD → R PD} {fa : Mx B PD} {σ : St} {H : Hp} {Q : VK} (h : rdE B O (cUn f fa) σ H Q) : tUn (rdU f) (rdE B O fa) σ H Q := by
  obtain ⟨G, ρ, s, a, p⟩ := h
  refine rdE.then a p fun x G1 H1 dx s1 a1 g1 rx p1 => ?_
  by_cases hd : isD dx = true
  · rw [if_pos hd] at p1
    exact ⟨G1, dx, a1.sit.sub, rx.dg (isD_tok hd), (PostD.of a1.sit p1 (isOk_nx _)).isOk⟩
  · rw [if_neg hd] at p1; exact p1.elim
theorem de_un {op : UnaryOp} {f : PD → R PD} {a : Expr} {fa : Mx B PD} {pos : Pos} (ho : UnR X (unaryOp op) (rdU f)) (ha : DE X B O a fa) : DE X B O (.UnaryOp op a pos) (cUn f fa) :=
  PE.imp (pe_un ho ha) fun σ H Q h => rd_un h

/-! ### the operators -/
def pAdd : PD → PD → R PD
  | .int i, .int j => .ok (.int (i + j))
  | .list xs, .list ys => if xs.length + ys.length ≤ sizeLine then .ok (.list (xs ++ ys)) else .bad
  | .str x, .str y => if x.length + y.length ≤ sizeLine then .ok (.str (x ++ y)) else .bad
  | .tuple xs, .tuple ys => if xs.length + ys.length ≤ sizeLine ∧ 0 < xs.length ∧ 0 < ys.length then .ok (.tuple (xs ++ ys)) else .bad
  | _, _ => .bad
theorem dop_add : DOp X (binaryOp .Add) pAdd := by
  refine OpR.by fun x y H Q h => ?_
  obtain ⟨G, d, e, sb, rx, ry, p⟩ := h
  unfold pAdd at p
  split at p
  · exact ⟨_, op_add, _, _, rx.of_int, ry.of_int, p.val sb (.int _)⟩
  · rename_i xs ys
    split at p
    · rename_i hl
      obtain ⟨a, vs, rfl, ga, da⟩ := rx.of_lst
      obtain ⟨b, ws, rfl, gb, db⟩ := ry.of_lst
      exact ⟨_, op_cat, _, _, _, _, rfl, rfl, sb _ _ ga, sb _ _ gb, by rw [da.len, db.len]; exact hl, fun q hq => p.lst sb (da.app db) hq⟩
    · exact p.elim
  · rename_i xs ys
    split at p
    · rename_i hl
      exact ⟨_, op_add_str, _, _, rx.of_str, ry.of_str, hl, p.val sb (.str _)⟩
    · exact p.elim
  · rename_i xs ys
    split at p
    · rename_i hl
      obtain ⟨a, vs, rfl, ga, da⟩ := rx.of_tup
      obtain ⟨b, ws, rfl, gb, db⟩ := ry.of_tup
      refine ⟨_, op_catT, _, _, _, _, rfl, rfl, SqT.of (sb _ _ ga), SqT.of (sb _ _ gb), ?_, by rw [da.len, db.len]; exact hl.1, ?_, fun q hq => ?_⟩
      · intro z; have := da.len; rw [z] at this; simp at this; omega
      · intro z; have := db.len; rw [z] at this; simp at this; omega
      · exact fun hq2 => p.tup sb (da.app db) hq2
    · exact p.elim
  · exact p.elim
def pSub : PD → PD → R PD
  | .int i, .int j => .ok (.int (i - j))
  | _, _ => .bad
theorem dop_sub : DOp X (binaryOp .Sub) pSub := by
  refine OpR.by fun x y H Q h => ?_
  obtain ⟨G, d, e, sb, rx, ry, p⟩ := h
  unfold pSub at p
  split at p
  · exact ⟨_, op_sub, _, _, rx.of_int, ry.of_int, p.val sb (.int _)⟩
  · exact p.elim
def mulOk (i j : Int) : Bool := (decide (-(2 ^ 64) < i) && decide (i < 2 ^ 64)) || (decide (-(2 ^ 64) < j) && decide (j < 2 ^ 64))
def pMul : PD → PD → R PD
  | .int i, .int j => if mulOk i j then .ok (.int (i * j)) else .bad
  | .list xs, .int k => if (decide (-(2 ^ 63) ≤ k) && decide (k < 2 ^ 63) && decide (xs.length * k.toNat ≤ sizeLine)) then .ok (.list (List.replicate k.toNat xs).flatten) else .bad
  | _, _ => .bad
theorem DgAll.rep {G : Hp} {vs : List V} {ds : List PD} (h : DgAll G vs ds) : ∀ n : Nat, DgAll G (List.replicate n vs).flatten (List.replicate n ds).flatten
  | 0 => .nil
  | n + 1 => by
    rw [List.replicate_succ, List.replicate_succ, List.flatten_cons, List.flatten_cons]
    exact h.app (DgAll.rep h n)
theorem dop_mul : DOp X (binaryOp .Mult) pMul := by
  refine OpR.by fun x y H Q h => ?_
  obtain ⟨G, d, e, sb, rx, ry, p⟩ := h
  unfold pMul at p
  split at p
  · rename_i i j
    split at p
    · rename_i hm
      refine ⟨_, op_mul, _, _, rx.of_int, ry.of_int, ?_, p.val sb (.int _)⟩
      unfold mulOk at hm
      simp only [Bool.or_eq_true, Bool.and_eq_true, decide_eq_true_eq] at hm
      exact hm
    · exact p.elim
  · rename_i xs k
    split at p
    · rename_i hm
      simp only [Bool.and_eq_true, decide_eq_true_eq] at hm
      obtain ⟨a, vs, rfl, ga, da⟩ := rx.of_lst
      exact ⟨_, op_rep, _, _, _, rfl, ry.of_int, sb _ _ ga, hm.1.1, hm.1.2, by rw [da.len]; exact hm.2, fun q hq => p.lst sb (da.rep _) hq⟩
    · exact p.elim
  · exact p.elim
def pDiv : PD → PD → R PD
  | .int i, .int j => if decide (0 < j) && decide (j < 1073741824) then .ok (.int (i / j)) else .bad
  | _, _ => .bad
theorem dop_div : DOp X (binaryOp .FloorDiv) pDiv := by
  refine OpR.by fun x y H Q h => ?_
  obtain ⟨G, d, e, sb, rx, ry, p⟩ := h
  unfold pDiv at p
  split at p
  · split at p
    · rename_i hm
      simp only [Bool.and_eq_true, decide_eq_true_eq] at hm
      exact ⟨_, op_fdiv, _, _, rx.of_int, ry.of_int, hm, p.val sb (.int _)⟩
    · exact p.elim
  · exact p.elim
def pMod : PD → PD → R PD
  | .int i, .int j => if 0 < j then .ok (.int (i % j)) else .bad
  | _, _ => .bad
theorem dop_mod : DOp X (binaryOp .Mod) pMod := by
  refine OpR.by fun x y H Q h => ?_
  obtain ⟨G, d, e, sb, rx, ry, p⟩ := h
  unfold pMod at p
  split at p
  · split at p
    · rename_i hm
      exact ⟨_, op_mod, _, _, rx.of_int, ry.of_int, hm, p.val sb (.int _)⟩
    · exact p.elim
  · exact p.elim
def pPow : PD → PD → R PD
  | .int i, .int j => if decide (0 ≤ j) && decide (j ≤ 1000000) && decide (i.natAbs < 2 ^ 64) then .ok (.int (i ^ j.toNat)) else .bad
  | _, _ => .bad
theorem dop_pow : DOp X (binaryOp .Pow) pPow := by
  refine OpR.by fun x y H Q h => ?_
  obtain ⟨G, d, e, sb, rx, ry, p⟩ := h
  unfold pPow at p
  split at p
  · split at p
    · rename_i hm
      simp only [Bool.and_eq_true, decide_eq_true_eq] at hm
      exact ⟨_, op_pow, _, _, rx.of_int, ry.of_int, ⟨hm.1.1, hm.1.2, hm.2⟩, p.val sb (.int _)⟩
    · exact p.elim
  · exact p.elim
def pNeg : PD → R PD
  | .int i => .ok (.int (-i))
  | _ => .bad
theorem dun_neg : UnR X (unaryOp .USub) (rdU pNeg) := by
  intro pins s σ H x v Q I rx h
  obtain ⟨G, d, sb, rx', p⟩ := h
  unfold pNeg at p
  split at p
  · exact un_neg pins s σ H x v Q I rx ⟨_, rx'.of_int, p.val sb (.int _)⟩
  · exact p.elim
/-- comparisons of ints -/
def pCmp (c : Int → Int → Bool) : PD → PD → R PD
  | .int i, .int j => .ok (.bool (c i j))
  | _, _ => .bad
theorem dop_cmp {g : Value → Value → Sem Value} {c : Int → Int → Bool} (ho : OpR X g (rI0 fun i j => .bl (c i j))) : DOp X g (pCmp c) := by
  refine OpR.by fun x y H Q h => ?_
  obtain ⟨G, d, e, sb, rx, ry, p⟩ := h
  unfold pCmp at p
  split at p
  · exact ⟨_, ho, _, _, rx.of_int, ry.of_int, p.val sb (.bl _)⟩
  · exact p.elim
abbrev pLt := pCmp fun i j => decide (i < j)
abbrev pLe := pCmp fun i j => decide (i ≤ j)
abbrev pGt := pCmp fun i j => decide (j < i)
abbrev pGe := pCmp fun i j => decide (j ≤ i)
theorem dop_lt : DOp X (compareOp .Lt) pLt := dop_cmp op_lt
theorem dop_le : DOp X (compareOp .LtE) pLe := dop_cmp op_le
theorem dop_gt : DOp X (compareOp .Gt) pGt := dop_cmp op_gt
theorem dop_ge : DOp X (compareOp .GtE) pGe := dop_cmp op_ge
/-- ==, != of data -/
def pEq : PD → PD → R PD := fun d e => if SeqAt.shaped d && SeqAt.shaped e then .ok (.bool (PyData.eqv d e)) else .bad
def pNe : PD → PD → R PD := fun d e => if SeqAt.shaped d && SeqAt.shaped e then .ok (.bool (!PyData.eqv d e)) else .bad
theorem dop_eq (hu : X.A.units + 64 < cLine) : DOp X (compareOp .Eq) pEq := by
  refine OpR.by fun x y H Q h => ?_
  obtain ⟨G, d, e, sb, rx, ry, p⟩ := h
  unfold pEq at p
  split at p
  · rename_i hm
    rw [Bool.and_eq_true] at hm
    exact ⟨_, op_eqD hu, d, e, rx.dp sb, ry.dp sb, hm.1, hm.2, p.val sb (.bl _)⟩
  · exact p.elim
theorem dop_ne (hu : X.A.units + 64 < cLine) : DOp X (compareOp .NotEq) pNe := by
  refine OpR.by fun x y H Q h => ?_
  obtain ⟨G, d, e, sb, rx, ry, p⟩ := h
  unfold pNe at p
  split at p
  · rename_i hm
    rw [Bool.and_eq_true] at hm
    exact ⟨_, op_neD hu, d, e, rx.dp sb, ry.dp sb, hm.1, hm.2, p.val sb (.bl _)⟩
  · exact p.elim
/-- in, not in a list -/
def pIn : PD → PD → R PD
  | d, .list ds => if SeqAt.shaped d && SeqAt.shaped (.list ds) then .ok (.bool (ds.any fun z => PyData.eqv z d)) else .bad
  | _, _ => .bad
def pNotIn : PD → PD → R PD
  | d, .list ds => if SeqAt.shaped d && SeqAt.shaped (.list ds) then .ok (.bool (!ds.any fun z => PyData.eqv z d)) else .bad
  | _, _ => .bad
theorem dop_in (hu : X.A.units + 65 < cLine) : DOp X (compareOp .In) pIn := by
  refine OpR.by fun x y H Q h => ?_
  obtain ⟨G, d, e, sb, rx, ry, p⟩ := h
  unfold pIn at p
  split at p
  · split at p
    · rename_i hm
      rw [Bool.and_eq_true] at hm
      exact ⟨_, op_inD hu, d, _, rx.dp sb, ry.dp sb, hm.1, hm.2, p.val sb (.bl _)⟩
    · exact p.elim
  · exact p.elim
theorem dop_notIn (hu : X.A.units + 65 < cLine) : DOp X (compareOp .NotIn) pNotIn := by
  refine OpR.by fun x y H Q h => ?_
  obtain ⟨G, d, e, sb, rx, ry, p⟩ := h
  unfold pNotIn at p
  split at p
  · split at p
    · rename_i hm
      rw [Bool.and_eq_true] at hm
      exact ⟨_, op_notInD hu, d, _, rx.dp sb, ry.dp sb, hm.1, hm.2, p.val sb (.bl _)⟩
    · exact p.elim
  · exact p.elim
/-- is, is not: of bools, of None on the right -/
def isNone : PD → Bool
  | .none => true
  | _ => false
def pIs : PD → PD → R PD
  | .bool a, .bool b => .ok (.bool (decide (a = b)))
  | d, .none => .ok (.bool (isNone d))
  | _, _ => .bad
def pIsNot : PD → PD → R PD
  | .bool a, .bool b => .ok (.bool (!decide (a = b)))
  | d, .none => .ok (.bool (!isNone d))
  | _, _ => .bad
theorem isNone_of {G : Hp} {v : V} {d : PD} (h : Dg G v d) : decide (v = .non) = isNone d := by
  cases h <;> first | rfl | exact decide_eq_false fun z => nomatch z
theorem dop_is : DOp X (compareOp .Is) pIs := by
  refine OpR.by fun x y H Q h => ?_
  obtain ⟨G, d, e, sb, rx, ry, p⟩ := h
  unfold pIs at p
  split at p
  · exact ⟨_, op_isBl, _, _, rx.of_bl, ry.of_bl, p.val sb (.bl _)⟩
  · refine ⟨_, op_isN, ry.of_non, ?_⟩
    rw [isNone_of rx]
    exact p.val sb (.bl _)
  · exact p.elim
theorem dop_isNot : DOp X (compareOp .IsNot) pIsNot := by
  refine OpR.by fun x y H Q h => ?_
  obtain ⟨G, d, e, sb, rx, ry, p⟩ := h
  unfold pIsNot at p
  split at p
  · exact ⟨_, op_notBl, _, _, rx.of_bl, ry.of_bl, p.val sb (.bl _)⟩
  · refine ⟨_, op_notN, ry.of_non, ?_⟩
    rw [isNone_of rx]
    exact p.val sb (.bl _)
  · exact p.elim

/-! ### tests -/
def cTest {d : Type} (a : Env → d → R (PD × d)) : Env → d → R (Bool × d) := fun ρ s =>
  bnd (a ρ s) fun x s1 => match x with
    | .bool b => .ok (b, s1)
    | _ => .bad
theorem PostT.done {G H : Hp} {b : Bool} {s : B.W.d} {Q : Bool → Hp → Prop} (S : Sit B.W G H s) (p : PostT B G H (.ok (b, s)) Q) : Q b H := p G H .refl S
theorem rd_test {fa : Mx B PD} {σ : St} {H : Hp} {Q : Bool → Hp → Prop} (h : rdT B O (cTest fa) σ H Q) : rdE B O fa σ H fun x H1 => ∃ c, x = .bl c ∧ Q c H1 := by
  obtain ⟨G, ρ, s, a, p⟩ := h
  refine rdE.thenT a p fun x G1 H1 dx s1 a1 g1 rx p1 => ?_
  cases dx with
  | bool b => exact ⟨b, (rx.dg (isD_tok rfl)).of_bl, p1.done a1.sit⟩
  | _ => exact p1.elim
/-- an expression whose value is a bool -/
theorem dt_val {e : Expr} {f : Mx B PD} (h : DE X B O e f) (he : ∀ whole, isTrue e X.env whole = (do let v ← whole; standAt e.pos; holding [v] (truthy v)) := by intro _; rfl) : DT X B O e (cTest f) :=
  PT.imp (pt_val h he) fun σ H Q h => rd_test h
theorem dt_cmp {op : CmpOp} {f : PD → PD → R PD} {a b : Expr} {fa fb : Mx B PD} {pos : Pos} (ho : DOp X (compareOp op) f) (ha : DE X B O a fa) (hb : DE X B O b fb) (hm : behindInMarks op b = false := by first | exact nobehind _ (by decide) (by decide) | rfl) : DT X B O (.Compare a [op] [b] pos) (cTest (cOp f fa fb)) :=
  PT.imp (pt_cmpR ho ha hb hm) fun σ H Q h => by
    obtain ⟨G, ρ, s, a, p⟩ := rd_test h
    exact rd_op ⟨G, ρ, s, a, p⟩
end
end DL

/-! DL3: and, or, not, chains, arguments, displays, subscripts -/
namespace DL
open PySem PySem.Spec PyProof.Rows L2
section
variable {X : Cx} {B : Bs} {O : List Nat}
abbrev DW (X : Cx) (B : Bs) (O : List Nat) (e : Expr) (f : Mx B Bool) : Prop := PW X e (rdT B O f)
theorem PW.imp {e : Expr} {t t' : TT} (h : PW X e t) (i : ∀ σ H Q, t' σ H Q → t σ H Q) : PW X e t' := ⟨fun wh pins s σ H Q I q => h.run wh pins s σ H Q I (i σ H Q q)⟩
def cAndT {d : Type} (a b : Env → d → R (Bool × d)) : Env → d → R (Bool × d) := fun ρ s => bnd (a ρ s) fun x s1 => if x = true then b ρ s1 else .ok (false, s1)
def cOrT {d : Type} (a b : Env → d → R (Bool × d)) : Env → d → R (Bool × d) := fun ρ s => bnd (a ρ s) fun x s1 => if x = true then .ok (true, s1) else b ρ s1
def cNotT {d : Type} (a : Env → d → R (Bool × d)) : Env → d → R (Bool × d) := fun ρ s => bnd (a ρ s) fun x s1 => .ok (!x, s1)
theorem dw_and1 {a : Expr} {fa : Mx B Bool} {pos : Pos} (ha : DT X B O a fa) : DW X B O (.BoolOp .And [a] pos) fa := pw_and1 ha
theorem dw_or1 {a : Expr} {fa : Mx B Bool} {pos : Pos} (ha : DT X B O a fa) : DW X B O (.BoolOp .Or [a] pos) fa := pw_or1 ha
theorem dw_and {a b : Expr} {rest : List Expr} {fa fb : Mx B Bool} {pos : Pos} (ha : DT X B O a fa) (hb : DW X B O (.BoolOp .And (b :: rest) pos) fb) : DW X B O (.BoolOp .And (a :: b :: rest) pos) (cAndT fa fb) :=
  PW.imp (pw_and ha hb) fun σ H Q h => by
    obtain ⟨G, ρ, s, a, p⟩ := h
    refine rdT.thenT a p fun x G1 H1 s1 a1 g1 p1 => ?_
    cases x with
    | true => exact ⟨G1, ρ, s1, a1, p1⟩
    | false => exact p1.done a1.sit
theorem dw_or {a b : Expr} {rest : List Expr} {fa fb : Mx B Bool} {pos : Pos} (ha : DT X B O a fa) (hb : DW X B O (.BoolOp .Or (b :: rest) pos) fb) : DW X B O (.BoolOp .Or (a :: b :: rest) pos) (cOrT fa fb) :=
  PW.imp (pw_or ha hb) fun σ H Q h => by
    obtain ⟨G, ρ, s, a, p⟩ := h
    refine rdT.thenT a p fun x G1 H1 s1 a1 g1 p1 => ?_
    cases x with
    | true => exact p1.done a1.sit
    | false => exact ⟨G1, ρ, s1, a1, p1⟩
theorem dt_bool {e : Expr} {f : Mx B Bool} (h : DW X B O e f) : DT X B O e f := h.pt
theorem dt_not {a : Expr} {fa : Mx B Bool} {pos : Pos} (ha : DT X B O a fa) : DT X B O (.UnaryOp .Not a pos) (cNotT fa) :=
  PT.imp (pt_not ha) fun σ H Q h => by
    obtain ⟨G, ρ, s, a, p⟩ := h
    exact rdT.thenT a p fun x G1 H1 s1 a1 g1 p1 => p1.done a1.sit
/-! as values -/
def cAndV {d : Type} (a b : Env → d → R (PD × d)) : Env → d → R (PD × d) := fun ρ s => bnd (a ρ s) fun x s1 => match x with
  | .bool true => b ρ s1
  | .bool false => .ok (.bool false, s1)
  | _ => .bad
def cOrV {d : Type} (a b : Env → d → R (PD × d)) : Env → d → R (PD × d) := fun ρ s => bnd (a ρ s) fun x s1 => match x with
  | .bool true => .ok (.bool true, s1)
  | .bool false => b ρ s1
  | _ => .bad
def pNot : PD → R PD
  | .bool b => .ok (.bool (!b))
  | _ => .bad
theorem de_one {op : BoolOp} {a : Expr} {fa : Mx B PD} {pos : Pos} (ha : DE X B O a fa) : DE X B O (.BoolOp op [a] pos) fa := pe_one ha
theorem de_and {a b : Expr} {rest : List Expr} {fa fb : Mx B PD} {pos : Pos} (ha : DE X B O a fa) (hb : DE X B O (.BoolOp .And (b :: rest) pos) fb) : DE X B O (.BoolOp .And (a :: b :: rest) pos) (cAndV fa fb) :=
  PE.imp (pe_and ha hb) fun σ H Q h => by
    obtain ⟨G, ρ, s, a, p⟩ := h
    refine rdE.then a p fun x G1 H1 dx s1 a1 g1 rx p1 => ?_
    cases dx with
    | bool b =>
      refine ⟨b, (rx.dg (isD_tok rfl)).of_bl, ?_⟩
      cases b with
      | true => exact ⟨G1, ρ, s1, a1, p1⟩
      | false => exact p1.done a1.sit (.inl (.bl false))
    | _ => exact p1.elim
theorem de_or {a b : Expr} {rest : List Expr} {fa fb : Mx B PD} {pos : Pos} (ha : DE X B O a fa) (hb : DE X B O (.BoolOp .Or (b :: rest) pos) fb) : DE X B O (.BoolOp .Or (a :: b :: rest) pos) (cOrV fa fb) :=
  PE.imp (pe_or ha hb) fun σ H Q h => by
    obtain ⟨G, ρ, s, a, p⟩ := h
    refine rdE.then a p fun x G1 H1 dx s1 a1 g1 rx p1 => ?_
    cases dx with
    | bool b =>
      refine ⟨b, (rx.dg (isD_tok rfl)).of_bl, ?_⟩
      cases b with
      | true => exact p1.done a1.sit (.inl (.bl true))
      | false => exact ⟨G1, ρ, s1, a1, p1⟩
    | _ => exact p1.elim
theorem de_not {a : Expr} {fa : Mx B PD} {pos : Pos} (ha : DE X B O a fa) : DE X B O (.UnaryOp .Not a pos) (cUn pNot fa) :=
  PE.imp (pe_not ha) fun σ H Q h => by
    obtain ⟨G, ρ, s, a, p⟩ := h
    refine rdE.then a p fun x G1 H1 dx s1 a1 g1 rx p1 => ?_
    cases dx with
    | bool b => exact ⟨b, (rx.dg (isD_tok rfl)).of_bl, p1.done a1.sit (.inl (.bl _))⟩
    | dict _ => exact p1.elim
    | _ => exact p1.elim
def cIf {d : Type} (t : Env → d → R (Bool × d)) (a b : Env → d → R (PD × d)) : Env → d → R (PD × d) := fun ρ s => bnd (t ρ s) fun x s1 => if x = true then a ρ s1 else b ρ s1
theorem de_if {c a b : Expr} {fc : Mx B Bool} {fa fb : Mx B PD} {pos : Pos} (hc : DT X B O c fc) (ha : DE X B O a fa) (hb : DE X B O b fb) : DE X B O (.IfExp c a b pos) (cIf fc fa fb) :=
  PE.imp (pe_ifExp hc ha hb) fun σ H Q h => by
    obtain ⟨G, ρ, s, a, p⟩ := h
    refine rdT.then a p fun x G1 H1 s1 a1 g1 p1 => ?_
    cases x with
    | true => exact ⟨G1, ρ, s1, a1, p1⟩
    | false => exact ⟨G1, ρ, s1, a1, p1⟩
/-! a chain of two comparisons -/
def cChain {d : Type} (f g : PD → PD → R PD) (a b c : Env → d → R (PD × d)) : Env → d → R (PD × d) := fun ρ s =>
  bnd (a ρ s) fun x s1 => bnd (b ρ s1) fun y s2 => if isD x && isD y then
    bnd (lft (isOk (f x y)) s2) fun z s3 => match z with
      | .bool true => bnd (c ρ s3) fun w s4 => if isD w then lft (isOk (g y w)) s4 else .bad
      | .bool false => .ok (.bool false, s3)
      | _ => .bad
    else .bad
theorem PostD.ofK {G H : Hp} {r : R PD} {Q : VK} {s : B.W.d} (S : Sit B.W G H s) (hx : ∀ c, r ≠ .exc c) (hb : r ≠ .bad) (p : ∀ d, r = .ok d → ∀ v G' H', Gr B.W.fp G H G' H' → Sit B.W G' H' s → Dg G' v d → Q v H') : PostD G H r Q := by
  cases r with
  | ok d => exact fun v G' H' g sb rp => p d rfl v G' H' (g.weak fun _ z => z.elim) (S.pure g sb) rp
  | exc c => exact (hx c rfl).elim
  | bad => exact hb rfl
theorem rd_chain {f g : PD → PD → R PD} {fa fb fc : Mx B PD} {σ : St} {H : Hp} {Q : VK} (h : rdE B O (cChain f g fa fb fc) σ H Q) : tChain (rdO f) (rdO g) (rdE B O fa) (rdE B O fb) (rdE B O fc) σ H Q := by
  obtain ⟨G, ρ, s, a, p⟩ := h
  refine rdE.then a p fun x G1 H1 dx s1 a1 g1 rx p1 => ?_
  refine rdE.then a1 p1 fun y G2 H2 dy s2 a2 g2 ry p2 => ?_
  by_cases hd : (isD dx && isD dy) = true
  · rw [if_pos hd] at p2
    have h' := hd
    rw [Bool.and_eq_true] at h'
    have hy := ry.dg (isD_tok h'.2)
    refine ⟨G2, dx, dy, a2.sit.sub, (rx.mono g2.g).dg (isD_tok h'.1), hy, PostD.isOk (PostD.ofK (r := isOk (f dx dy)) a2.sit (isOk_nx _) ?_ fun d e v G3 H3 g3 S3 rv => ?_)⟩
    · intro z; rw [z] at p2; exact p2
    · rw [e] at p2
      cases d with
      | bool b =>
        refine ⟨b, rv.of_bl, ?_⟩
        cases b with
        | true =>
          refine rdE.then (a2.step g3 S3) (PostE.mono g3 p2) fun w G4 H4 dw s4 a4 g4 rw' p4 => ?_
          by_cases hw : isD dw = true
          · rw [if_pos hw] at p4
            exact ⟨G4, dy, dw, a4.sit.sub, (hy.mono g3.g).mono g4.g, rw'.dg (isD_tok hw), (PostD.of a4.sit p4 (isOk_nx _)).isOk⟩
          · rw [if_neg hw] at p4; exact p4.elim
        | false => exact p2 _ G3 H3 g3 S3 (.inl (.bl false))
      | _ => exact p2.elim
  · rw [if_neg hd] at p2; exact p2.elim
theorem de_chain {op op' : CmpOp} {f g : PD → PD → R PD} {a b c : Expr} {fa fb fc : Mx B PD} {pos : Pos} (ho : DOp X (compareOp op) f) (ho' : DOp X (compareOp op') g) (ha : DE X B O a fa) (hb : DE X B O b fb) (hc : DE X B O c fc)
    (hm : lastMarks [op, op'] [b, c] = false := by with_unfolding_all rfl) : DE X B O (.Compare a [op, op'] [b, c] pos) (cChain f g fa fb fc) :=
  PE.imp (pe_chain ho ho' ha hb hc hm) fun σ H Q h => rd_chain h
theorem dt_chain {op op' : CmpOp} {f g : PD → PD → R PD} {a b c : Expr} {fa fb fc : Mx B PD} {pos : Pos} (ho : DOp X (compareOp op) f) (ho' : DOp X (compareOp op') g) (ha : DE X B O a fa) (hb : DE X B O b fb) (hc : DE X B O c fc)
    (hm : lastMarks [op, op'] [b, c] = false := by with_unfolding_all rfl) : DT X B O (.Compare a [op, op'] [b, c] pos) (cTest (cChain f g fa fb fc)) :=
  PT.imp (pt_chain ho ho' ha hb hc hm) fun σ H Q h => by
    obtain ⟨G, ρ, s, a, p⟩ := rd_test h
    exact rd_chain ⟨G, ρ, s, a, p⟩

/-! ### arguments, displays -/
def aNil {d : Type} : Env → d → R (List PD × d) := fun _ s => .ok ([], s)
def aCons {d : Type} (a : Env → d → R (PD × d)) (r : Env → d → R (List PD × d)) : Env → d → R (List PD × d) := fun ρ s => bnd (a ρ s) fun x s1 => bnd (r ρ s1) fun xs s2 => .ok (x :: xs, s2)
theorem PostA.done {G H : Hp} {vs : List V} {ds : List PD} {s : B.W.d} {Q : List V → Hp → Prop} (S : Sit B.W G H s) (r : RpAll B.W.tk G vs ds) (p : PostA B G H (.ok (ds, s)) Q) : Q vs H := p vs G H .refl S r
theorem da_nil : DA X B O [] aNil := PA.imp pa_nil fun σ H Q h => by
  obtain ⟨G, ρ, s, a, p⟩ := h
  exact p.done a.sit .nil
theorem da_cons {e : Expr} {es : List Expr} {fe : Mx B PD} {fr : Mx B (List PD)} (he : DE X B O e fe) (hr : DA X B O es fr) (hs : starEach (e :: es) X.env = (false, eval e X.env) :: starEach es X.env := by rfl) : DA X B O (e :: es) (aCons fe fr) :=
  PA.imp (pa_cons he hr hs) fun σ H Q h => by
    obtain ⟨G, ρ, s, a, p⟩ := h
    refine rdE.thenA a p fun x G1 H1 dx s1 a1 g1 rx p1 => ?_
    refine rdA.thenA a1 p1 fun xs G2 H2 ds s2 a2 g2 rs p2 => ?_
    exact p2.done a2.sit (.cons (rx.mono g2.g) rs)
def cTup {d : Type} (r : Env → d → R (List PD × d)) : Env → d → R (PD × d) := fun ρ s => bnd (r ρ s) fun xs s1 => if allD xs && decide (xs.length ≤ sizeLine) then .ok (.tuple xs, s1) else .bad
def cLst {d : Type} (r : Env → d → R (List PD × d)) : Env → d → R (PD × d) := fun ρ s => bnd (r ρ s) fun xs s1 => if allD xs && decide (xs.length ≤ sizeLine) then .ok (.list xs, s1) else .bad
theorem de_tup {es : List Expr} {k : Nat} {f : Mx B (List PD)} {pos : Pos} (h : DA X B O es f) : DE X B O (.Tuple es k pos) (cTup f) :=
  PE.imp (pe_tup h) fun σ H Q h => by
    obtain ⟨G, ρ, s, a, p⟩ := h
    refine rdA.then a p fun xs G1 H1 ds s1 a1 g1 rs p1 => ?_
    by_cases hd : (allD ds && decide (ds.length ≤ sizeLine)) = true
    · rw [if_pos hd] at p1
      rw [Bool.and_eq_true, decide_eq_true_eq] at hd
      exact ⟨by rw [rs.len]; exact hd.2, fun q hq => p1.tup a1.sit (rs.dg hd.1) hq⟩
    · rw [if_neg hd] at p1; exact p1.elim
theorem de_lst {es : List Expr} {f : Mx B (List PD)} {pos : Pos} (h : DA X B O es f) : DE X B O (.List es pos) (cLst f) :=
  PE.imp (pe_lst h) fun σ H Q h => by
    obtain ⟨G, ρ, s, a, p⟩ := h
    refine rdA.then a p fun xs G1 H1 ds s1 a1 g1 rs p1 => ?_
    by_cases hd : (allD ds && decide (ds.length ≤ sizeLine)) = true
    · rw [if_pos hd] at p1
      rw [Bool.and_eq_true, decide_eq_true_eq] at hd
      exact ⟨by rw [rs.len]; exact hd.2, fun q hq => p1.lst a1.sit (rs.dg hd.1) hq⟩
    · rw [if_neg hd] at p1; exact p1.elim

/-! ### subscripts -/
def pIx : PD → PD → R PD
  | .list xs, .int i => match atI xs i with
    | some d => .ok d
    | none => .bad
  | .tuple xs, .int i => match atI xs i with
    | some d => .ok d
    | none => .bad
  | .str z, .int i => if z.length ≤ sizeLine then match atI z.cps.toList i with
    | some c => .ok (.str ⟨#[c]⟩)
    | none => .bad
    else .bad
  | _, _ => .bad
theorem DgAll.atI {G : Hp} {vs : List V} {ds : List PD} {i : Int} {d : PD} (h : DgAll G vs ds) (e : atI ds i = some d) : ∃ v, L2.atI vs i = some v ∧ Dg G v d := by
  unfold L2.atI at e ⊢
  rw [h.len]
  cases q : ixN ds.length i with
  | none => rw [q] at e; cases e
  | some j =>
    rw [q] at e
    exact h.get e
theorem dix_seq : IxR X (rdO pIx) := by
  intro b hb pins s σ H x y v u Q I rx ry h
  obtain ⟨G, d, e, sb, rx', ry', p⟩ := h
  refine ix_seq b hb pins s σ H x y v u Q I rx ry ?_
  unfold pIx at p
  split at p
  · split at p
    · rename_i i d' e'
      obtain ⟨a, vs, rfl, ga, da⟩ := rx'.of_lst
      obtain ⟨w, h1, h2⟩ := da.atI e'
      exact .inl ⟨_, _, _, w, rfl, ry'.of_int, SqL.of (sb _ _ ga), h1, p.val sb h2⟩
    · exact p.elim
  · split at p
    · rename_i i d' e'
      obtain ⟨a, vs, rfl, ga, da⟩ := rx'.of_tup
      obtain ⟨w, h1, h2⟩ := da.atI e'
      exact .inr (.inl ⟨_, _, _, w, rfl, ry'.of_int, SqT.of (sb _ _ ga), h1, p.val sb h2⟩)
    · exact p.elim
  · split at p
    · rename_i hz
      split at p
      · rename_i c e'
        exact .inr (.inr ⟨_, _, c, rx'.of_str, ry'.of_int, hz, e', p.val sb (.str _)⟩)
      · exact p.elim
    · exact p.elim
  · exact p.elim
theorem de_ix {a b : Expr} {fa fb : Mx B PD} {pos : Pos} (ha : DE X B O a fa) (hb : DE X B O b fb) (hs : PlainIx b := by intro _ _; rfl) : DE X B O (.Subscript a b pos) (cOp pIx fa fb) :=
  PE.imp (pe_ix dix_seq ha hb hs) fun σ H Q h => rd_op h
end
end DL

/-! DL4: slices, built-ins -/
namespace DL
open PySem PySem.Spec PyProof.Rows L2
section
variable {X : Cx} {B : Bs} {O : List Nat}
/-! ### slices -/
def cutD {a : Type} (xs : List a) (lo hi : Option Int) : List a := (xs.drop (HT.sIx xs.length 0 lo)).take (HT.sIx xs.length xs.length hi - HT.sIx xs.length 0 lo)
def pSl : PD → Option Int → Option Int → R PD
  | .list xs, lo, hi => .ok (.list (cutD xs lo hi))
  | .tuple xs, lo, hi => if HT.sIx xs.length 0 lo = 0 ∧ HT.sIx xs.length xs.length hi = xs.length then .ok (.tuple xs) else .ok (.tuple (cutD xs lo hi))
  | .str z, lo, hi => if z.length ≤ sizeLine then .ok (.str (cutS z lo hi)) else .bad
  | _, _, _ => .bad
theorem DgAll.cut {G : Hp} {vs : List V} {ds : List PD} (h : DgAll G vs ds) (lo hi : Option Int) : DgAll G (cutV vs lo hi) (cutD ds lo hi) := by
  unfold cutV cutD
  rw [h.len]
  exact (h.drop _).take _
def rdSl (f : PD → Option Int → Option Int → R PD) : V → Option Int → Option Int → Hp → VK → Prop := fun x lo hi H Q => ∃ G d, Sub G H ∧ Dg G x d ∧ PostD G H (f d lo hi) Q
theorem SlR.by {r' : V → Option Int → Option Int → Hp → VK → Prop} (h : ∀ x lo hi H Q, r' x lo hi H Q → ∃ r, SlR X r ∧ r x lo hi H Q) : SlR X r' := fun pins s σ H x v vl vu lo hi sl Q I rx hs pl pu q => by
  obtain ⟨r, hr, q'⟩ := h x lo hi H Q q
  exact hr pins s σ H x v vl vu lo hi sl Q I rx hs pl pu q'
theorem dsl : SlR X (rdSl pSl) := by
  refine SlR.by fun x lo hi H Q h => ?_
  obtain ⟨G, d, sb, rx, p⟩ := h
  unfold pSl at p
  split at p
  · obtain ⟨a, vs, rfl, ga, da⟩ := rx.of_lst
    exact ⟨_, sl_list, _, _, rfl, SqL.of (sb _ _ ga), fun q hq => p.lst sb (da.cut _ _) hq⟩
  · obtain ⟨a, vs, rfl, ga, da⟩ := rx.of_tup
    have hl := da.len
    split at p
    · rename_i hw
      refine ⟨_, sl_tupA, _, _, rfl, SqT.of (sb _ _ ga), ?_⟩
      rw [hl]
      exact ⟨fun _ => p.val sb (.tup ga da), fun n => absurd hw n⟩
    · rename_i hw
      refine ⟨_, sl_tupA, _, _, rfl, SqT.of (sb _ _ ga), ?_⟩
      rw [hl]
      exact ⟨fun z => absurd z hw, fun _ q hq => p.tup sb (da.cut _ _) hq⟩
  · split at p
    · rename_i hz
      exact ⟨_, sl_str, _, rx.of_str, hz, p.val sb (.str _)⟩
    · exact p.elim
  · exact p.elim
/-- a part of a slice -/
def PostO (B : Bs) (G H : Hp) (r : R (Option Int × B.W.d)) (Q : Option Int → Hp → Prop) : Prop :=
  match r with
  | .ok (b, s') => ∀ G' H', Gr B.W.fp G H G' H' → Sit B.W G' H' s' → Q b H'
  | .exc c => ∀ G' H', Gr B.W.fp G H G' H' → B.E (.ref (B.W.cls c)) none H'
  | .bad => False
def rdPt (B : Bs) (O : List Nat) (f : Mx B (Option Int)) : TO := fun σ H Q => ∃ G ρ s, At B O σ H G ρ s ∧ PostO B G H (f ρ s) Q
abbrev DO (X : Cx) (B : Bs) (O : List Nat) (e : Option Expr) (f : Mx B (Option Int)) : Prop := PO X e (rdPt B O f)
theorem PO.imp {e : Option Expr} {t t' : TO} (h : PO X e t) (i : ∀ σ H Q, t' σ H Q → t σ H Q) : PO X e t' := ⟨fun pins s σ H Q I q => h.run pins s σ H Q I (i σ H Q q)⟩
theorem PostO.mono {G H G1 H1 : Hp} {r : R (Option Int × B.W.d)} {Q : Option Int → Hp → Prop} (g : Gr B.W.fp G H G1 H1) (h : PostO B G H r Q) : PostO B G1 H1 r Q := by
  cases r with
  | ok x => exact fun G' H' g' S' => h G' H' (g.trans g') S'
  | exc c => exact fun G' H' g' => h G' H' (g.trans g')
  | bad => exact h
def oNone {d : Type} : Env → d → R (Option Int × d) := fun _ s => .ok (none, s)
def oSome {d : Type} (a : Env → d → R (PD × d)) : Env → d → R (Option Int × d) := fun ρ s => bnd (a ρ s) fun x s1 => match x with
  | .int i => .ok (some i, s1)
  | _ => .bad
theorem do_none : DO X B O none oNone := PO.imp po_none fun σ H Q h => by
  obtain ⟨G, ρ, s, a, p⟩ := h
  exact p G H .refl a.sit
theorem do_some {e : Expr} {fe : Mx B PD} (he : DE X B O e fe) : DO X B O (some e) (oSome fe) := PO.imp (po_some he) fun σ H Q h => by
  obtain ⟨G, ρ, s, a, p⟩ := h
  refine rdE.fst (k := fun x s1 => match x with | .int i => .ok (some i, s1) | _ => .bad) a (fun G H r => PostO B G H r Q) (fun g p => p.mono g) (fun p => p) (fun p => p) p fun x G1 H1 dx s1 a1 g1 rx p1 => ?_
  cases dx with
  | int i => exact ⟨i, (rx.dg (isD_tok rfl)).of_int, p1 G1 H1 .refl a1.sit⟩
  | _ => exact p1.elim
theorem rdPt.then {f : Mx B (Option Int)} {σ : St} {H : Hp} {Q : Option Int → Hp → Prop} {Q' : VK} {G : Hp} {ρ : Env} {s : B.W.d} {k : Option Int → B.W.d → R (PD × B.W.d)}
    (a : At B O σ H G ρ s) (p : PostE B G H (bnd (f ρ s) k) Q') (h : ∀ x G1 H1 s1, At B O σ H1 G1 ρ s1 → Gr B.W.fp G H G1 H1 → PostE B G1 H1 (k x s1) Q' → Q x H1) : rdPt B O f σ H Q := by
  refine ⟨G, ρ, s, a, ?_⟩
  cases e : f ρ s with
  | ok x =>
    obtain ⟨d, s1⟩ := x
    rw [e] at p
    exact fun G1 H1 g S => h d G1 H1 s1 (a.step g S) g (PostE.mono g p)
  | exc c => rw [e] at p; exact p
  | bad => rw [e] at p; exact p
def cSl {d : Type} (f : PD → Option Int → Option Int → R PD) (a : Env → d → R (PD × d)) (l h : Env → d → R (Option Int × d)) : Env → d → R (PD × d) := fun ρ s =>
  bnd (a ρ s) fun x s1 => bnd (l ρ s1) fun lo s2 => bnd (h ρ s2) fun hi s3 => if isD x then lft (isOk (f x lo hi)) s3 else .bad
theorem de_slice {e : Expr} {lo hi : Option Expr} {fe : Mx B PD} {fl fh : Mx B (Option Int)} {p2 pos : Pos} (he : DE X B O e fe) (hl : DO X B O lo fl) (hh : DO X B O hi fh) : DE X B O (.Subscript e (.Slice lo hi none p2) pos) (cSl pSl fe fl fh) :=
  PE.imp (pe_slice dsl he hl hh) fun σ H Q h => by
    obtain ⟨G, ρ, s, a, p⟩ := h
    refine rdE.then a p fun x G1 H1 dx s1 a1 g1 rx p1 => ?_
    refine rdPt.then a1 p1 fun l G2 H2 s2 a2 g2 p2 => ?_
    refine rdPt.then a2 p2 fun u G3 H3 s3 a3 g3 p3 => ?_
    by_cases hd : isD dx = true
    · rw [if_pos hd] at p3
      exact ⟨G3, dx, a3.sit.sub, ((rx.mono g2.g).mono g3.g).dg (isD_tok hd), (PostD.of a3.sit p3 (isOk_nx _)).isOk⟩
    · rw [if_neg hd] at p3; exact p3.elim
/-- xs[::-1] -/
def pRev : PD → R PD
  | .list xs => .ok (.list xs.reverse)
  | _ => .bad
theorem de_rev {e : Expr} {fe : Mx B PD} {k : Nat} {p1 p2 p3 pos : Pos} (he : DE X B O e fe) : DE X B O (.Subscript e (.Slice none none (some (.UnaryOp .USub (.Constant (.int 1) k p1) p2)) p3) pos) (cUn pRev fe) :=
  PE.imp (pe_revL he) fun σ H Q h => by
    obtain ⟨G, ρ, s, a, p⟩ := h
    refine rdE.then a p fun x G1 H1 dx s1 a1 g1 rx p1 => ?_
    cases dx with
    | list ds =>
      obtain ⟨l, vs, rfl, gl, dl⟩ := (rx.dg (isD_tok rfl)).of_lst
      exact ⟨_, _, rfl, SqL.of (a1.sit.sub _ _ gl), fun q hq => PostE.lst (ds := ds.reverse) a1.sit dl.rev p1 hq⟩
    | dict _ => exact p1.elim
    | _ => exact p1.elim

/-! ### calls of built-ins -/
def rdC (f : List PD → R PD) : List V → Hp → VK → Prop := fun vs H Q => ∃ G ds, Sub G H ∧ DgAll G vs ds ∧ PostD G H (f ds) Q
def cCall {d : Type} (f : List PD → R PD) (a : Env → d → R (List PD × d)) : Env → d → R (PD × d) := fun ρ s =>
  bnd (a ρ s) fun xs s1 => if allD xs then lft (isOk (f xs)) s1 else .bad
theorem CallR.by {fv : Value} {r' : List V → Hp → VK → Prop} (h : ∀ vs H Q, r' vs H Q → ∃ r, CallR X fv r ∧ r vs H Q) : CallR X fv r' := fun pins s σ H vs us Q I rv q => by
  obtain ⟨r, hr, q'⟩ := h vs H Q q
  exact hr pins s σ H vs us Q I rv q'
theorem rd_call {f : List PD → R PD} {fa : Mx B (List PD)} {σ : St} {H : Hp} {Q : VK} (h : rdE B O (cCall f fa) σ H Q) : tCB (rdC f) (rdA B O fa) σ H Q := by
  obtain ⟨G, ρ, s, a, p⟩ := h
  refine rdA.then a p fun vs G1 H1 ds s1 a1 g1 rs p1 => ?_
  by_cases hd : allD ds = true
  · rw [if_pos hd] at p1
    exact ⟨G1, ds, a1.sit.sub, rs.dg hd, (PostD.of a1.sit p1 (isOk_nx _)).isOk⟩
  · rw [if_neg hd] at p1; exact p1.elim
theorem de_callB {x : Str} {id : String} {f : List PD → R PD} {e : Expr} {es : List Expr} {fa : Mx B (List PD)} {p pos : Pos} (hc : CallR X (.builtin id) (rdC f)) (hm : X.mg x = none) (ha : DA X B O (e :: es) fa) (hv : bootBuiltins x = some (.builtin id) := by decide +kernel) (hg : Gl X x := by rfl)
    (hn : x ≠ "__name__" := by decide) (hdb : (x == ("__debug__" : Str)) = false := by decide) (he : starEach (e :: es) X.env = (false, eval e X.env) :: starEach es X.env := by rfl) (hpl : (backTo pos (starEach es X.env)).any (·.1) = false := by rfl) : DE X B O (.Call (.Name x p) (e :: es) [] pos) (cCall f fa) :=
  PE.imp (pe_callB hc hg hm hv ha hn hdb he hpl) fun σ H Q h => rd_call h
theorem de_callTy {x : Str} {T : String} {f : List PD → R PD} {e : Expr} {es : List Expr} {fa : Mx B (List PD)} {p pos : Pos} (hc : CallR X (.type T) (rdC f)) (hm : X.mg x = none) (ha : DA X B O (e :: es) fa) (hv : bootBuiltins x = some (.type T) := by decide +kernel) (hg : Gl X x := by rfl)
    (hn : x ≠ "__name__" := by decide) (hdb : (x == ("__debug__" : Str)) = false := by decide) (he : starEach (e :: es) X.env = (false, eval e X.env) :: starEach es X.env := by rfl) (hpl : (backTo pos (starEach es X.env)).any (·.1) = false := by rfl) : DE X B O (.Call (.Name x p) (e :: es) [] pos) (cCall f fa) :=
  PE.imp (pe_callTy hc hg hm hv ha hn hdb he hpl) fun σ H Q h => rd_call h
theorem DgAll.one {G : Hp} {vs : List V} {d : PD} (h : DgAll G vs [d]) : ∃ v, vs = [v] ∧ Dg G v d := by
  cases h with
  | cons a b => cases b; exact ⟨_, rfl, a⟩
theorem DgAll.two {G : Hp} {vs : List V} {d e : PD} (h : DgAll G vs [d, e]) : ∃ v w, vs = [v, w] ∧ Dg G v d ∧ Dg G w e := by
  cases h with
  | cons a b =>
    cases b with
    | cons b c => cases c; exact ⟨_, _, rfl, a, b⟩
/-- len -/
def pLen : List PD → R PD
  | [.list xs] => .ok (.int xs.length)
  | [.tuple xs] => .ok (.int xs.length)
  | [.str z] => if z.length ≤ sizeLine then .ok (.int z.length) else .bad
  | _ => .bad
theorem dc_len : CallR X (.builtin "len") (rdC pLen) := by
  refine CallR.by fun vs H Q h => ?_
  obtain ⟨G, ds, sb, rs, p⟩ := h
  unfold pLen at p
  split at p
  · obtain ⟨v, rfl, rv⟩ := rs.one
    obtain ⟨a, xs, rfl, ga, da⟩ := rv.of_lst
    refine ⟨_, call_len_seq, _, _, rfl, .inl (SqL.of (sb _ _ ga)), ?_⟩
    rw [da.len]
    exact p.val sb (.int _)
  · obtain ⟨v, rfl, rv⟩ := rs.one
    obtain ⟨a, xs, rfl, ga, da⟩ := rv.of_tup
    refine ⟨_, call_len_seq, _, _, rfl, .inr (SqT.of (sb _ _ ga)), ?_⟩
    rw [da.len]
    exact p.val sb (.int _)
  · obtain ⟨v, rfl, rv⟩ := rs.one
    split at p
    · rename_i hz
      exact ⟨_, call_len_str, _, by rw [rv.of_str], hz, p.val sb (.int _)⟩
    · exact p.elim
  · exact p.elim
/-- lists of ints, of bools -/
def toInts : List PD → Option (List Int)
  | [] => some []
  | .int i :: r => (toInts r).map (i :: ·)
  | _ => none
def toBools : List PD → Option (List Bool)
  | [] => some []
  | .bool i :: r => (toBools r).map (i :: ·)
  | _ => none
theorem toInts_eq : ∀ {ds : List PD} {ns : List Int}, toInts ds = some ns → ds = ns.map PyData.int
  | [], ns, h => by simp only [toInts, Option.some.injEq] at h; subst h; rfl
  | d :: r, ns, h => by
    cases d with
    | int i =>
      simp only [toInts, Option.map_eq_some_iff] at h
      obtain ⟨ms, h1, h2⟩ := h
      subst h2
      rw [toInts_eq h1]; rfl
    | _ => simp [toInts] at h
theorem toBools_eq : ∀ {ds : List PD} {ns : List Bool}, toBools ds = some ns → ds = ns.map PyData.bool
  | [], ns, h => by simp only [toBools, Option.some.injEq] at h; subst h; rfl
  | d :: r, ns, h => by
    cases d with
    | bool i =>
      simp only [toBools, Option.map_eq_some_iff] at h
      obtain ⟨ms, h1, h2⟩ := h
      subst h2
      rw [toBools_eq h1]; rfl
    | _ => simp [toBools] at h
@[simp] theorem toInts_map : ∀ ns : List Int, toInts (ns.map PyData.int) = some ns
  | [] => rfl
  | n :: ns => by simp only [List.map_cons, toInts, toInts_map ns, Option.map_some]
@[simp] theorem toBools_map : ∀ ns : List Bool, toBools (ns.map PyData.bool) = some ns
  | [] => rfl
  | n :: ns => by simp only [List.map_cons, toBools, toBools_map ns, Option.map_some]
/-- all -/
def pAll : List PD → R PD
  | [.list xs] => match toBools xs with
    | some bs => .ok (.bool (bs.all id))
    | none => .bad
  | _ => .bad
theorem dc_all (hc : X.calm = true) : CallR X (.builtin "all") (rdC pAll) := by
  refine CallR.by fun vs H Q h => ?_
  obtain ⟨G, ds, sb, rs, p⟩ := h
  unfold pAll at p
  split at p
  · obtain ⟨v, rfl, rv⟩ := rs.one
    obtain ⟨a, xs, rfl, ga, da⟩ := rv.of_lst
    split at p
    · rename_i bs e
      rw [toBools_eq e] at da
      have e2 := da.bools
      subst e2
      exact ⟨_, cr_all hc, _, bs, rfl, SqL.of (sb _ _ ga), p.val sb (.bl _)⟩
    · exact p.elim
  · exact p.elim
/-- sum of a list, of a tuple -/
theorem sum_tupleRaw {prog : Program} {w : World} {A : Around} {E : Value → Shared → Prop} {s : Shared} {l : Addr} {its : List Value} {ns : List Int} {Q : Value → Shared → Prop} (hh : A.handled = none) (hl : s.heap.IsTuple l its.toArray) (hi : IntsAre its ns)
    (h : ∀ h' tk t', (∀ b o, s.heap.get? b = some o → h'.get? b = some o) → Q (.int ns.sum t') { s with heap := h', toks := tk }) : wpAny (model prog w) A (call (.builtin "sum") [.ref l]) Q E s := by
  obtain ⟨xs, e⟩ := hi.allInts.items
  have hn : numsOf (intItems xs).toList = ns := by rw [← e]; exact hi.numsOf
  rw [nums_intItems] at hn
  rw [e] at hl
  refine call_sum_walkG (wpAny_pyIter_tuple hl ?_)
  have hlt : l < s.heap.objs.size := by
    obtain ⟨o, ho, _⟩ := hl
    exact Heap.lt_size ho
  refine ⟨_, _, _, _, _, _, numAt xs, rfl, Walks.tuple (A := A.in1) hh _ l (Nat.ne_of_lt hlt) (intItems xs), ⟨⟨_, Heap.get?_push_size _ rfl, rfl, rfl⟩, hl.push _⟩, ?_, (fun _ _ => intItems_at), fun h' tk t' hk => ?_⟩
  · intro b hb
    rw [Heap.size_push]
    simp only [List.mem_cons, List.not_mem_nil, or_false] at hb
    rcases hb with rfl | rfl
    · exact Nat.lt_succ_self _
    · exact Nat.lt_succ_of_lt hlt
  · have q := h h' tk t' fun b o eb => hk b o (by
      simp only [List.mem_singleton]
      exact Nat.ne_of_lt (Heap.lt_size eb)) (Heap.get?_push_of_some _ eb)
    have e3 : preSum (numAt xs) (intItems xs).size = ns.sum := by
      rw [preSum_eq, List.take_of_length_le (by simp [intItems]), hn]
    rw [e3]
    exact q
theorem cr_sumT (hc : X.calm = true) : CallR X (.builtin "sum") (fun vs H Q => ∃ (a : Addr) (ns : List Int), vs = [V.ref a] ∧ SqT X.K H a (ns.map V.int) ∧ Q (.int ns.sum) H) := by
  intro pins s σ H vs us Q I r h
  obtain ⟨a, ns, rfl, hs, q⟩ := h
  obtain ⟨its, rv, hl, _⟩ := I.tuple hs
  rw [Vals.ref1 r]
  exact sum_tupleRaw (I.ok.hd hc) hl rv.ints fun h' tk t' hk => ⟨.int _, H, I.kept hk, ⟨_, rfl⟩, q⟩
def pSum : List PD → R PD
  | [.list xs] => match toInts xs with
    | some bs => .ok (.int bs.sum)
    | none => .bad
  | [.tuple xs] => match toInts xs with
    | some bs => .ok (.int bs.sum)
    | none => .bad
  | _ => .bad
theorem dc_sum (hc : X.calm = true) : CallR X (.builtin "sum") (rdC pSum) := by
  refine CallR.by fun vs H Q h => ?_
  obtain ⟨G, ds, sb, rs, p⟩ := h
  unfold pSum at p
  split at p
  · obtain ⟨v, rfl, rv⟩ := rs.one
    obtain ⟨a, xs, rfl, ga, da⟩ := rv.of_lst
    split at p
    · rename_i bs e
      rw [toInts_eq e] at da
      have e2 := da.ints
      subst e2
      exact ⟨_, cr_sum hc, _, bs, rfl, SqL.of (sb _ _ ga), p.val sb (.int _)⟩
    · exact p.elim
  · obtain ⟨v, rfl, rv⟩ := rs.one
    obtain ⟨a, xs, rfl, ga, da⟩ := rv.of_tup
    split at p
    · rename_i bs e
      rw [toInts_eq e] at da
      have e2 := da.ints
      subst e2
      exact ⟨_, cr_sumT hc, _, bs, rfl, SqT.of (sb _ _ ga), p.val sb (.int _)⟩
    · exact p.elim
  · exact p.elim
/-- max, min -/
def maxL : Int → List Int → Int
  | m, [] => m
  | m, x :: r => maxL (if x > m then x else m) r
def minL : Int → List Int → Int
  | m, [] => m
  | m, x :: r => minL (if x < m then x else m) r
theorem maxL_ge : ∀ (r : List Int) (m : Int), m ≤ maxL m r ∧ (∀ y ∈ r, y ≤ maxL m r) ∧ (maxL m r = m ∨ maxL m r ∈ r)
  | [], m => ⟨Int.le_refl _, fun y h => by simp at h, .inl rfl⟩
  | x :: r, m => by
    have h := maxL_ge r (if x > m then x else m)
    unfold maxL
    split at h
    · rename_i c
      rw [if_pos c]
      refine ⟨by omega, fun y hy => ?_, ?_⟩
      · rcases List.mem_cons.mp hy with rfl | hy
        · exact h.1
        · exact h.2.1 y hy
      · rcases h.2.2 with e | e
        · exact .inr (by rw [e]; simp)
        · exact .inr (List.mem_cons_of_mem _ e)
    · rename_i c
      rw [if_neg c]
      refine ⟨h.1, fun y hy => ?_, ?_⟩
      · rcases List.mem_cons.mp hy with rfl | hy
        · omega
        · exact h.2.1 y hy
      · rcases h.2.2 with e | e
        · exact .inl e
        · exact .inr (List.mem_cons_of_mem _ e)
theorem minL_le : ∀ (r : List Int) (m : Int), minL m r ≤ m ∧ (∀ y ∈ r, minL m r ≤ y) ∧ (minL m r = m ∨ minL m r ∈ r)
  | [], m => ⟨Int.le_refl _, fun y h => by simp at h, .inl rfl⟩
  | x :: r, m => by
    have h := minL_le r (if x < m then x else m)
    unfold minL
    split at h
    · rename_i c
      rw [if_pos c]
      refine ⟨by omega, fun y hy => ?_, ?_⟩
      · rcases List.mem_cons.mp hy with rfl | hy
        · exact h.1
        · exact h.2.1 y hy
      · rcases h.2.2 with e | e
        · exact .inr (by rw [e]; simp)
        · exact .inr (List.mem_cons_of_mem _ e)
    · rename_i c
      rw [if_neg c]
      refine ⟨h.1, fun y hy => ?_, ?_⟩
      · rcases List.mem_cons.mp hy with rfl | hy
        · omega
        · exact h.2.1 y hy
      · rcases h.2.2 with e | e
        · exact .inl e
        · exact .inr (List.mem_cons_of_mem _ e)
theorem maxL_eq {m : Int} {x : Int} {r : List Int} (h1 : m ∈ x :: r) (h2 : ∀ y ∈ x :: r, y ≤ m) : m = maxL x r := by
  have h := maxL_ge r x
  have a : maxL x r ≤ m := by
    rcases h.2.2 with e | e
    · rw [e]; exact h2 x (by simp)
    · exact h2 _ (List.mem_cons_of_mem _ e)
  have b : m ≤ maxL x r := by
    rcases List.mem_cons.mp h1 with e | e
    · rw [e]; exact h.1
    · exact h.2.1 m e
  omega
theorem minL_eq {m : Int} {x : Int} {r : List Int} (h1 : m ∈ x :: r) (h2 : ∀ y ∈ x :: r, m ≤ y) : m = minL x r := by
  have h := minL_le r x
  have a : m ≤ minL x r := by
    rcases h.2.2 with e | e
    · rw [e]; exact h2 x (by simp)
    · exact h2 _ (List.mem_cons_of_mem _ e)
  have b : minL x r ≤ m := by
    rcases List.mem_cons.mp h1 with e | e
    · rw [e]; exact h.1
    · exact h.2.1 m e
  omega
def pMax : List PD → R PD
  | [.list xs] => match toInts xs with
    | some (x :: r) => .ok (.int (maxL x r))
    | _ => .bad
  | [.int i, .int j] => .ok (.int (if j > i then j else i))
  | _ => .bad
def pMin : List PD → R PD
  | [.list xs] => match toInts xs with
    | some (x :: r) => .ok (.int (minL x r))
    | _ => .bad
  | [.int i, .int j] => .ok (.int (if j < i then j else i))
  | _ => .bad
theorem dc_max (hc : X.calm = true) : CallR X (.builtin "max") (rdC pMax) := by
  refine CallR.by fun vs H Q h => ?_
  obtain ⟨G, ds, sb, rs, p⟩ := h
  unfold pMax at p
  split at p
  · obtain ⟨v, rfl, rv⟩ := rs.one
    obtain ⟨a, xs, rfl, ga, da⟩ := rv.of_lst
    split at p
    · rename_i x r e
      rw [toInts_eq e] at da
      have e2 := da.ints
      subst e2
      refine ⟨_, cr_max hc, _, x :: r, rfl, SqL.of (sb _ _ ga), Nat.succ_pos _, fun m h1 h2 => ?_⟩
      rw [maxL_eq h1 h2]
      exact p.val sb (.int _)
    · exact p.elim
  · obtain ⟨v, w, rfl, rv, rw'⟩ := rs.two
    exact ⟨_, call_max2 hc, _, _, by rw [rv.of_int, rw'.of_int], p.val sb (.int _)⟩
  · exact p.elim
theorem dc_min (hc : X.calm = true) : CallR X (.builtin "min") (rdC pMin) := by
  refine CallR.by fun vs H Q h => ?_
  obtain ⟨G, ds, sb, rs, p⟩ := h
  unfold pMin at p
  split at p
  · obtain ⟨v, rfl, rv⟩ := rs.one
    obtain ⟨a, xs, rfl, ga, da⟩ := rv.of_lst
    split at p
    · rename_i x r e
      rw [toInts_eq e] at da
      have e2 := da.ints
      subst e2
      refine ⟨_, cr_min hc, _, x :: r, rfl, SqL.of (sb _ _ ga), Nat.succ_pos _, fun m h1 h2 => ?_⟩
      rw [minL_eq h1 h2]
      exact p.val sb (.int _)
    · exact p.elim
  · obtain ⟨v, w, rfl, rv, rw'⟩ := rs.two
    exact ⟨_, call_min2 hc, _, _, by rw [rv.of_int, rw'.of_int], p.val sb (.int _)⟩
  · exact p.elim
/-- abs -/
def pAbs : List PD → R PD
  | [.int i] => .ok (.int (if i < 0 then -i else i))
  | _ => .bad
theorem dc_abs : CallR X (.builtin "abs") (rdC pAbs) := by
  refine CallR.by fun vs H Q h => ?_
  obtain ⟨G, ds, sb, rs, p⟩ := h
  unfold pAbs at p
  split at p
  · obtain ⟨v, rfl, rv⟩ := rs.one
    exact ⟨_, call_abs, _, by rw [rv.of_int], p.val sb (.int _)⟩
  · exact p.elim
/-- list(x), tuple(x) -/
def pList : List PD → R PD
  | [.list xs] => .ok (.list xs)
  | [.tuple xs] => .ok (.list xs)
  | _ => .bad
def pTuple : List PD → R PD
  | [.list xs] => .ok (.tuple xs)
  | [.tuple xs] => .ok (.tuple xs)
  | _ => .bad
theorem dc_list : CallR X (.type "list") (rdC pList) := by
  refine CallR.by fun vs H Q h => ?_
  obtain ⟨G, ds, sb, rs, p⟩ := h
  unfold pList at p
  split at p
  · obtain ⟨v, rfl, rv⟩ := rs.one
    obtain ⟨a, xs, rfl, ga, da⟩ := rv.of_lst
    exact ⟨_, call_list_of, _, _, rfl, .inl (SqL.of (sb _ _ ga)), fun q hq => p.lst sb da hq⟩
  · obtain ⟨v, rfl, rv⟩ := rs.one
    obtain ⟨a, xs, rfl, ga, da⟩ := rv.of_tup
    exact ⟨_, call_list_of, _, _, rfl, .inr (SqT.of (sb _ _ ga)), fun q hq => p.lst sb da hq⟩
  · exact p.elim
theorem dc_tuple : CallR X (.type "tuple") (rdC pTuple) := by
  refine CallR.by fun vs H Q h => ?_
  obtain ⟨G, ds, sb, rs, p⟩ := h
  unfold pTuple at p
  split at p
  · obtain ⟨v, rfl, rv⟩ := rs.one
    obtain ⟨a, xs, rfl, ga, da⟩ := rv.of_lst
    exact ⟨_, call_tuple_of, _, _, rfl, .inl ⟨SqL.of (sb _ _ ga), fun q hq => p.tup sb da hq⟩⟩
  · obtain ⟨v, rfl, rv⟩ := rs.one
    obtain ⟨a, xs, rfl, ga, da⟩ := rv.of_tup
    exact ⟨_, call_tuple_of, _, _, rfl, .inr ⟨SqT.of (sb _ _ ga), p.val sb (.tup ga da)⟩⟩
  · exact p.elim
/-- isinstance(x, T) of a built-in T -/
def tyN : PD → String
  | .none => "NoneType"
  | .bool _ => "bool"
  | .int _ => "int"
  | .str _ => "str"
  | .list _ => "list"
  | .tuple _ => "tuple"
  | .dict _ => "dict"
def isiT (T : String) : PD → Bool
  | .bool _ => T == "bool" || T == "int"
  | d => tyN d == T
def pIsi (T : String) : PD → R PD := fun d => .ok (.bool (isiT T d))
def TyOkB (T : String) : Bool := ["NoneType", "bool", "int", "str", "list", "tuple"].all fun a => kitB a T == some (if a == "bool" then T == "bool" || T == "int" else a == T)
theorem isi_kit {T a : String} (h : TyOkB T = true) (m : a ∈ ["NoneType", "bool", "int", "str", "list", "tuple"]) : kitB a T = some (if a == "bool" then T == "bool" || T == "int" else a == T) := by
  unfold TyOkB at h
  rw [List.all_eq_true] at h
  exact eq_of_beq (h a m)
theorem ty_of {K : PySem.W.Frag} {G H : Hp} {v : V} {d : PD} (sb : Sub G H) (r : Dg G v d) : TyX K H v (.type (tyN d)) := by
  cases r with
  | non => exact .base .non
  | bl b => exact .base (.bl b)
  | int i => exact .base (.int i)
  | str x => exact .base (.str x)
  | lst e a => exact .base (.lst (sb _ _ e))
  | tup e a => exact .base (.tup (sb _ _ e))
theorem isiT_of {T : String} {d : PD} (h : TyOkB T = true) (hd : isD d = true) : kitB (tyN d) T = some (isiT T d) := by
  cases d with
  | dict _ => cases hd
  | none => exact isi_kit h (a := "NoneType") (by simp)
  | bool _ => exact isi_kit h (a := "bool") (by simp)
  | int _ => exact isi_kit h (a := "int") (by simp)
  | str _ => exact isi_kit h (a := "str") (by simp)
  | list _ => exact isi_kit h (a := "list") (by simp)
  | tuple _ => exact isi_kit h (a := "tuple") (by simp)
theorem de_isi {T : String} {x : Str} {a : Expr} {fa : Mx B PD} {p p2 pos : Pos} (hT : TyOkB T = true) (hm : X.mg "isinstance" = none) (hm2 : X.mg x = none) (ha : DE X B O a fa) (hv2 : bootBuiltins x = some (.type T) := by decide +kernel) (hg : Gl X "isinstance" := by rfl) (hg2 : Gl X x := by rfl)
    (hv : bootBuiltins "isinstance" = some (.builtin "isinstance") := by decide +kernel) (hn2 : x ≠ "__name__" := by decide) (hd2 : (x == ("__debug__" : Str)) = false := by decide) (he : starEach [a, .Name x p2] X.env = (false, eval a X.env) :: starEach [.Name x p2] X.env := by rfl)
    (hpl : (backTo pos (starEach [.Name x p2] X.env)).any (·.1) = false := by rfl) : DE X B O (.Call (.Name "isinstance" p) [a, .Name x p2] [] pos) (cUn (pIsi T) fa) :=
  PE.imp (pe_callB call_isi hg hm hv (pa_cons ha (pa_cons (pe_bltn (v := .ty T) hg2 hm2 hv2 rfl hn2 hd2) pa_nil) he) (by decide) (by decide) he hpl) fun σ H Q h => by
    obtain ⟨G, ρ, s, a, p⟩ := h
    refine rdE.then a p fun v G1 H1 dx s1 a1 g1 rx p1 => ?_
    by_cases hd : isD dx = true
    · rw [if_pos hd] at p1
      have r := rx.dg (isD_tok hd)
      exact ⟨v, .ty T, _, _, isiT T dx, rfl, .ty T, ty_of a1.sit.sub r, kit_ty (isiT_of hT hd), p1.done a1.sit (.inl (.bl _))⟩
    · rw [if_neg hd] at p1; exact p1.elim
theorem tyOk_int : TyOkB "int" = true := by decide +kernel
theorem tyOk_bool : TyOkB "bool" = true := by decide +kernel
theorem tyOk_tuple : TyOkB "tuple" = true := by decide +kernel
theorem tyOk_list : TyOkB "list" = true := by decide +kernel
theorem tyOk_str : TyOkB "str" = true := by decide +kernel
end
end DL

/-! DL5: targets, statements -/
namespace DL
open PySem PySem.Spec PyProof.Rows L2
inductive Fl where
  | nx (ρ : Env) | rt (d : PD) | bk (ρ : Env) | ct (ρ : Env)
section
variable {X : Cx} {B : Bs} {O O' : List Nat}

/-! ### slots set -/
theorem RS.set {W : Wd} {G H H0 : Hp} {σ : St} {ρ : Env} {i : Nat} {v : V} {d : PD} (r : RS W G H H0 O σ ρ) (rv : Rp W.tk G v d) (hi : i ∉ O) : RS W G H H0 O (σ.set i (some v)) (ρ.set i (some d)) := by
  refine ⟨by rw [List.length_set, List.length_set]; exact r.len, fun j e h n => ?_, fun j e h m => ?_, fun j k p e f m1 m2 h1 h2 h3 h4 => ?_⟩
  · by_cases z : i = j
    · subst z
      by_cases hl : i < ρ.length
      · rw [List.getElem?_set_self hl] at h
        cases h
        exact ⟨v, List.getElem?_set_self (by rw [r.len]; exact hl), rv⟩
      · rw [List.getElem?_eq_none (by rw [List.length_set]; omega)] at h; cases h
    · rw [List.getElem?_set_ne z] at h
      obtain ⟨w, h1, h2⟩ := r.plain j e h n
      exact ⟨w, by rw [List.getElem?_set_ne z]; exact h1, h2⟩
  · have z : i ≠ j := fun z => hi (by rw [z]; exact m)
    rw [List.getElem?_set_ne z] at h
    obtain ⟨p, vs, ds, h1, h2⟩ := r.own j e h m
    exact ⟨p, vs, ds, by rw [List.getElem?_set_ne z]; exact h1, h2⟩
  · have z1 : i ≠ j := fun z => hi (by rw [z]; exact m1)
    have z2 : i ≠ k := fun z => hi (by rw [z]; exact m2)
    rw [List.getElem?_set_ne z1] at h1 h3
    rw [List.getElem?_set_ne z2] at h2 h4
    exact r.apart j k p e f m1 m2 h1 h2 h3 h4
theorem wipe_set_in {σ : St} {i : Nat} {x : Option V} : ∀ {vs : List Nat}, i ∈ vs → wipe (σ.set i x) vs = wipe σ vs
  | [], h => by simp at h
  | v :: vs, h => by
    show (wipe (σ.set i x) vs).set v none = (wipe σ vs).set v none
    by_cases m : i ∈ vs
    · rw [wipe_set_in m]
    · have e : v = i := by
        rcases List.mem_cons.mp h with z | z
        · exact z.symm
        · exact absurd z m
      subst e
      rw [wipe_set_out m, List.set_set]
where
  wipe_set_out {σ : St} {i : Nat} {x : Option V} : ∀ {vs : List Nat}, i ∉ vs → wipe (σ.set i x) vs = (wipe σ vs).set i x
  | [], _ => rfl
  | v :: vs, h => by
    show (wipe (σ.set i x) vs).set v none = ((wipe σ vs).set v none).set i x
    have h1 : i ∉ vs := fun z => h (List.mem_cons_of_mem _ z)
    have h2 : i ≠ v := fun z => h (by rw [z]; simp)
    rw [wipe_set_out h1, List.set_comm _ _ h2]

/-! ### targets -/
abbrev Bd := PD → Env → Option Env
abbrev Bds := List PD → Env → Option Env
def gRd (B : Bs) (O : List Nat) (b : Bd) (sl : List Nat) : TG := fun v σ H Q => ∃ G ρ d ρ', Sub G H ∧ RS B.W G H B.H0 O σ ρ ∧ Rp B.W.tk G v d ∧ b d ρ = some ρ' ∧
  ∀ σ', RS B.W G H B.H0 O σ' ρ' → (∀ vs : List Nat, (∀ i ∈ sl, i ∈ vs) → wipe σ' vs = wipe σ vs) → Q σ' H
def gRds (B : Bs) (O : List Nat) (b : Bds) (sl : List Nat) : TGs := fun v σ H Q => ∃ G ρ d ρ', Sub G H ∧ RS B.W G H B.H0 O σ ρ ∧ DgAll G v d ∧ b d ρ = some ρ' ∧
  ∀ σ', RS B.W G H B.H0 O σ' ρ' → (∀ vs : List Nat, (∀ i ∈ sl, i ∈ vs) → wipe σ' vs = wipe σ vs) → Q σ' H
abbrev DG (X : Cx) (B : Bs) (O : List Nat) (tg : Expr) (b : Bd) (sl : List Nat) : Prop := PG X tg (gRd B O b sl)
abbrev DGs (X : Cx) (B : Bs) (O : List Nat) (ts : List Expr) (b : Bds) (sl : List Nat) : Prop := PGs X ts (gRds B O b sl)
theorem PG.imp {tg : Expr} {t t' : TG} (h : PG X tg t) (i : ∀ v σ H Q, t' v σ H Q → t v σ H Q) : PG X tg t' := ⟨fun pins s σ H v u Q I r q => h.run pins s σ H v u Q I r (i v σ H Q q)⟩
theorem PGs.imp {ts : List Expr} {t t' : TGs} (h : PGs X ts t) (i : ∀ v σ H Q, t' v σ H Q → t v σ H Q) : PGs X ts t' := ⟨fun pins s σ H v u Q I r q => h.run pins s σ H v u Q I r (i v σ H Q q)⟩
def bNm (i : Nat) : Bd := fun d ρ => some (ρ.set i (some d))
def bTup (b : Bds) : Bd := fun d ρ => match d with
  | .tuple xs => b xs ρ
  | .list xs => b xs ρ
  | _ => none
def bNil : Bds := fun ds ρ => match ds with
  | [] => some ρ
  | _ => none
def bCons (b : Bd) (c : Bds) : Bds := fun ds ρ => match ds with
  | d :: r => match b d ρ with
    | some ρ' => c r ρ'
    | none => none
  | [] => none
theorem dg_name (i : Nat) {x : Str} {pos : Pos} (hN : X.N.Nodup) (hi : X.N[i]? = some x := by rfl) (hx : Loc X.env.scope x := by first | exact Or.inl rfl | exact Or.inr rfl) (hO : i ∉ O := by decide) (hf : X.fn x = true ∨ X.env.scope.names.lookup x = some .local := by first | exact .inl rfl | exact .inr rfl) : DG X B O (.Name x pos) (bNm i) [i] :=
  PG.imp (pg_name hN hi hx hf) fun v σ H Q h => by
    obtain ⟨G, ρ, d, ρ', sb, rs, rv, e, k⟩ := h
    cases e
    exact k _ (rs.set rv hO) fun vs hv => wipe_set_in (hv i (by simp))
theorem dgs_nil : DGs X B O [] bNil [] := PGs.imp pgs_nil fun v σ H Q h => by
  obtain ⟨G, ρ, d, ρ', sb, rs, rv, e, k⟩ := h
  cases d with
  | nil =>
    cases rv
    cases e
    exact ⟨rfl, k σ rs fun _ _ => rfl⟩
  | cons _ _ => cases e
theorem dgs_cons {t : Expr} {ts : List Expr} {b : Bd} {c : Bds} {sl sm : List Nat} (h1 : DG X B O t b sl) (h2 : DGs X B O ts c sm) (hs : (assignEach (t :: ts) X.env).map (·.2) = assign t X.env :: (assignEach ts X.env).map (·.2) := by rfl) : DGs X B O (t :: ts) (bCons b c) (sl ++ sm) :=
  PGs.imp (pgs_cons h1 h2 hs) fun v σ H Q h => by
    obtain ⟨G, ρ, d, ρ', sb, rs, rv, e, k⟩ := h
    cases rv with
    | nil => cases e
    | cons r1 r2 =>
      rename_i v vs d ds
      unfold bCons at e
      dsimp only at e
      cases e1 : b d ρ with
      | none => rw [e1] at e; cases e
      | some ρ1 =>
        rw [e1] at e
        refine ⟨v, vs, rfl, G, ρ, d, ρ1, sb, rs, .inl r1, e1, fun σ1 rs1 w1 => ?_⟩
        exact ⟨G, ρ1, ds, ρ', sb, rs1, r2, e, fun σ2 rs2 w2 => k σ2 rs2 fun vs hv => (w2 vs fun i hi => hv i (List.mem_append_right _ hi)).trans (w1 vs fun i hi => hv i (List.mem_append_left _ hi))⟩
theorem dgs_len {ts : List Expr} {c : Bds} {n : Nat} (h : ∀ ds ρ ρ', c ds ρ = some ρ' → ds.length = n) (ds : List PD) (ρ ρ' : Env) (e : c ds ρ = some ρ') : ds.length = n := h ds ρ ρ' e
def bLen (c : Bds) (n : Nat) : Prop := ∀ ds ρ ρ', c ds ρ = some ρ' → ds.length = n
theorem bLen_nil : bLen bNil 0 := fun ds ρ ρ' e => by
  cases ds with
  | nil => rfl
  | cons _ _ => cases e
theorem bLen_cons {b : Bd} {c : Bds} {n : Nat} (h : bLen c n) : bLen (bCons b c) (n + 1) := fun ds ρ ρ' e => by
  cases ds with
  | nil => cases e
  | cons d r =>
    unfold bCons at e
    dsimp only at e
    cases e1 : b d ρ with
    | none => rw [e1] at e; cases e
    | some ρ1 =>
      rw [e1] at e
      rw [List.length_cons, h r ρ1 ρ' e]
theorem PG.by {tg : Expr} {t' : TG} (h : ∀ v σ H Q, t' v σ H Q → ∃ t, PG X tg t ∧ t v σ H Q) : PG X tg t' := ⟨fun pins s σ H v u Q I r q => by
  obtain ⟨t, ht, q'⟩ := h v σ H Q q
  exact ht.run pins s σ H v u Q I r q'⟩
theorem dg_tup {es : List Expr} {k : Nat} {pos : Pos} {b : Bds} {sl : List Nat} {n : Nat} (hl : bLen b n) (h : DGs X B O es b sl) (hc : X.calm = true := by rfl) (hn : (assignEach es X.env).length = n := by rfl) (hst : (assignEach es X.env).findIdx? (·.1) = none := by rfl) : DG X B O (.Tuple es k pos) (bTup b) sl :=
  PG.by fun v σ H Q h => by
    obtain ⟨G, ρ, d, ρ', sb, rs, rv, e, kk⟩ := h
    unfold bTup at e
    split at e
    · rename_i xs
      obtain ⟨a, vs, rfl, ga, da⟩ := (rv.dg (isD_tok rfl)).of_tup
      exact ⟨_, pg_tup hc h hn hst, a, vs, rfl, SqT.of (sb _ _ ga), by rw [da.len]; exact hl _ _ _ e, G, ρ, xs, ρ', sb, rs, da, e, kk⟩
    · rename_i xs
      obtain ⟨a, vs, rfl, ga, da⟩ := (rv.dg (isD_tok rfl)).of_lst
      exact ⟨_, pg_lst hc h hn hst, a, vs, rfl, SqL.of (sb _ _ ga), by rw [da.len]; exact hl _ _ _ e, G, ρ, xs, ρ', sb, rs, da, e, kk⟩
    · cases e

/-! ### statements -/
abbrev Ms (B : Bs) := Env → B.W.d → R (Fl × B.W.d)
def PostS (B : Bs) (O' : List Nat) (D : Ends) (r : R (Fl × B.W.d)) : Prop :=
  match r with
  | .ok (.nx ρ', s') => ∀ σ' G' H', At B O' σ' H' G' ρ' s' → D.nx σ' H'
  | .ok (.bk ρ', s') => ∀ σ' G' H', At B O' σ' H' G' ρ' s' → D.bk σ' H'
  | .ok (.ct ρ', s') => ∀ σ' G' H', At B O' σ' H' G' ρ' s' → D.ct σ' H'
  | .ok (.rt d, s') => ∀ v G' H', Gr B.W.fp B.G0 B.H0 G' H' → Sit B.W G' H' s' → Rp B.W.tk G' v d → D.rt v H'
  | .exc c => ∀ G' H', Gr B.W.fp B.G0 B.H0 G' H' → B.E (.ref (B.W.cls c)) none H'
  | .bad => False
def rdS (B : Bs) (O O' : List Nat) (f : Ms B) : TS := fun D σ H => ∃ G ρ s, At B O σ H G ρ s ∧ PostS B O' D (f ρ s)
abbrev DS (X : Cx) (B : Bs) (O O' : List Nat) (st : Stmt) (f : Ms B) : Prop := PS X st (rdS B O O' f)
abbrev DSs (X : Cx) (B : Bs) (O O' : List Nat) (st : List Stmt) (f : Ms B) : Prop := PSs X st (rdS B O O' f)
def sNil {d : Type} : Env → d → R (Fl × d) := fun ρ s => .ok (.nx ρ, s)
def sSeq {d : Type} (f g : Env → d → R (Fl × d)) : Env → d → R (Fl × d) := fun ρ s => match f ρ s with
  | .ok (.nx ρ', s') => g ρ' s'
  | r => r
theorem dss_nil : DSs X B O O [] sNil := PSs.imp pss_nil fun D σ H h => by
  obtain ⟨G, ρ, s, a, p⟩ := h
  exact p σ G H a
/-- what owns less -/
theorem At.less {σ : St} {H G : Hp} {ρ : Env} {s : B.W.d} (a : At B O σ H G ρ s) (h : ∀ i ∈ O', i ∈ O) : ∃ G', At B O' σ H G' ρ s := by
  suffices hs : ∀ (l : List Nat) (O : List Nat) (G : Hp), At B O σ H G ρ s → ∃ G', At B (O.filter fun i => !l.contains i) σ H G' ρ s by
    obtain ⟨G', a'⟩ := hs (O.filter fun i => !O'.contains i) O G a
    refine ⟨G', a'.sit, a'.gr, a'.rs.len, fun i d e n => ?_, fun i d e m => ?_, fun i j p d e m1 m2 => ?_⟩
    · refine a'.rs.plain i d e fun z => ?_
      rw [List.mem_filter] at z
      have z2 := z.2
      rw [Bool.not_eq_true', List.contains_eq_mem, decide_eq_false_iff_not, List.mem_filter] at z2
      apply z2
      refine ⟨z.1, ?_⟩
      rw [Bool.not_eq_true', List.contains_eq_mem, decide_eq_false_iff_not]
      exact n
    · refine a'.rs.own i d e ?_
      rw [List.mem_filter]
      refine ⟨h i m, ?_⟩
      rw [Bool.not_eq_true', List.contains_eq_mem, decide_eq_false_iff_not, List.mem_filter]
      intro z
      have z2 := z.2
      rw [Bool.not_eq_true', List.contains_eq_mem, decide_eq_false_iff_not] at z2
      exact z2 m
    · refine a'.rs.apart i j p d e ?_ ?_
      · rw [List.mem_filter]
        refine ⟨h i m1, ?_⟩
        rw [Bool.not_eq_true', List.contains_eq_mem, decide_eq_false_iff_not, List.mem_filter]
        intro z
        have z2 := z.2
        rw [Bool.not_eq_true', List.contains_eq_mem, decide_eq_false_iff_not] at z2
        exact z2 m1
      · rw [List.mem_filter]
        refine ⟨h j m2, ?_⟩
        rw [Bool.not_eq_true', List.contains_eq_mem, decide_eq_false_iff_not, List.mem_filter]
        intro z
        have z2 := z.2
        rw [Bool.not_eq_true', List.contains_eq_mem, decide_eq_false_iff_not] at z2
        exact z2 m2
  intro l
  induction l with
  | nil =>
    intro O G a
    refine ⟨G, ?_⟩
    have e : (O.filter fun i => !([] : List Nat).contains i) = O := by simp
    rw [e]
    exact a
  | cons k l ih =>
    intro O G a
    -- freeze k
    have one : ∃ G', At B (O.filter fun i => decide (i ≠ k)) σ H G' ρ s := by
      by_cases mk : k ∈ O
      · cases ek : ρ[k]? with
        | none =>
          refine ⟨G, a.sit, a.gr, a.rs.len, fun i d e n => ?_, fun i d e m => a.rs.own i d e (List.mem_filter.mp m).1, fun i j p d e m1 m2 => a.rs.apart i j p d e (List.mem_filter.mp m1).1 (List.mem_filter.mp m2).1⟩
          refine a.rs.plain i d e fun z => n (List.mem_filter.mpr ⟨z, decide_eq_true fun q => ?_⟩)
          rw [q, ek] at e; cases e
        | some od =>
          cases od with
          | none =>
            refine ⟨G, a.sit, a.gr, a.rs.len, fun i d e n => ?_, fun i d e m => a.rs.own i d e (List.mem_filter.mp m).1, fun i j p d e m1 m2 => a.rs.apart i j p d e (List.mem_filter.mp m1).1 (List.mem_filter.mp m2).1⟩
            refine a.rs.plain i d e fun z => n (List.mem_filter.mpr ⟨z, decide_eq_true fun q => ?_⟩)
            rw [q, ek] at e; cases e
          | some dk =>
            obtain ⟨p, vs, ds, h1, h2, h3, h4, h5, h6, h7⟩ := a.rs.own k dk ek mk
            have sg : Sub G (upd G p (.lst vs)) := sub_upd h5
            have sh : Sub (upd G p (.lst vs)) H := fun x o e => by
              by_cases z : x = p
              · subst z; rw [upd_same] at e; cases e; exact h3
              · rw [upd_ne z] at e; exact a.sit.sub x o e
            have gr : Gr B.W.fp B.G0 B.H0 (upd G p (.lst vs)) H := ⟨fun x o e => sg x o (a.gr.g x o e), a.gr.h, a.gr.dom, fun x o e => by
              by_cases z : x = p
              · subst z; exact .inr h6
              · rw [upd_ne z] at e; exact a.gr.new x o e⟩
            have st : Sit B.W (upd G p (.lst vs)) H s := ⟨sh, fun x f => by
              have z : x ≠ p := fun z => h7 (by rw [← z]; exact f)
              rw [upd_ne z]; exact a.sit.fpG x f, a.sit.fpH, B.W.keep a.sit.rep sg fun _ _ _ e => e⟩
            refine ⟨upd G p (.lst vs), st, gr, a.rs.len, fun i d e n => ?_, fun i d e m => ?_, fun i j q d e m1 m2 => a.rs.apart i j q d e (List.mem_filter.mp m1).1 (List.mem_filter.mp m2).1⟩
            · by_cases z : i = k
              · subst z
                rw [ek] at e; cases e
                subst h2
                exact ⟨.ref p, h1, .inl (.lst upd_same (h4.mono sg))⟩
              · obtain ⟨v, q1, q2⟩ := a.rs.plain i d e fun w => n (List.mem_filter.mpr ⟨w, decide_eq_true z⟩)
                exact ⟨v, q1, q2.mono sg⟩
            · have m' := List.mem_filter.mp m
              have nk : i ≠ k := of_decide_eq_true m'.2
              obtain ⟨p', vs', ds', q1, q2, q3, q4, q5, q6, q7⟩ := a.rs.own i d e m'.1
              have np : p' ≠ p := fun z => nk (a.rs.apart i k p d dk m'.1 mk e ek (by rw [← z]; exact q1) h1)
              exact ⟨p', vs', ds', q1, q2, q3, q4.mono sg, by rw [upd_ne np]; exact q5, q6, q7⟩
      · refine ⟨G, ?_⟩
        have e : (O.filter fun i => decide (i ≠ k)) = O := List.filter_eq_self.mpr fun x hx => decide_eq_true fun z => mk (by rw [← z]; exact hx)
        rw [e]; exact a
    obtain ⟨G1, a1⟩ := one
    obtain ⟨G2, a2⟩ := ih _ G1 a1
    refine ⟨G2, ?_⟩
    have e : ((O.filter fun i => decide (i ≠ k)).filter fun i => !l.contains i) = O.filter fun i => !(k :: l).contains i := by
      rw [List.filter_filter]
      congr 1
      funext i
      simp only [List.contains_cons, ne_eq, decide_not]
      by_cases z : i = k
      · simp [z]
      · simp [z]
    rw [← e]
    exact a2
theorem PostS.less {D : Ends} {r : R (Fl × B.W.d)} (h : ∀ i ∈ O', i ∈ O) (p : PostS B O' D r) : PostS B O D r := by
  cases r with
  | ok x =>
    obtain ⟨f, s'⟩ := x
    cases f with
    | nx ρ => exact fun σ' G' H' a => let ⟨G2, a2⟩ := a.less h; p σ' G2 H' a2
    | bk ρ => exact fun σ' G' H' a => let ⟨G2, a2⟩ := a.less h; p σ' G2 H' a2
    | ct ρ => exact fun σ' G' H' a => let ⟨G2, a2⟩ := a.less h; p σ' G2 H' a2
    | rt d => exact p
  | exc c => exact p
  | bad => exact p
/-- owned before, read only from here on -/
theorem dss_less {O1 : List Nat} {sts : List Stmt} {f : Ms B} (h : ∀ i ∈ O1, i ∈ O) (hs : DSs X B O1 O' sts f) : DSs X B O O' sts f := PSs.imp hs fun D σ H q => by
  obtain ⟨G, ρ, s, a, p⟩ := q
  obtain ⟨G2, a2⟩ := a.less h
  exact ⟨G2, ρ, s, a2, p⟩
/-- owned behind, forgotten -/
theorem dss_post {O1 : List Nat} {sts : List Stmt} {f : Ms B} (h : ∀ i ∈ O', i ∈ O1) (hs : DSs X B O O1 sts f) : DSs X B O O' sts f := PSs.imp hs fun D σ H q => by
  obtain ⟨G, ρ, s, a, p⟩ := q
  exact ⟨G, ρ, s, a, p.less h⟩
theorem rd_seq {O1 : List Nat} {f g : Ms B} {D : Ends} {σ : St} {H : Hp} (h : rdS B O O' (sSeq f g) D σ H) (hO : ∀ i ∈ O', i ∈ O1) : tSeq (rdS B O O1 f) (rdS B O1 O' g) D σ H := by
  obtain ⟨G, ρ, s, a, p⟩ := h
  refine ⟨G, ρ, s, a, ?_⟩
  unfold sSeq at p
  cases e : f ρ s with
  | ok x =>
    obtain ⟨fl, s'⟩ := x
    rw [e] at p
    cases fl with
    | nx ρ' => exact fun σ' G' H' a' => ⟨G', ρ', s', a', p⟩
    | bk ρ' => exact fun σ' G' H' a' => let ⟨G2, a2⟩ := a'.less hO; p σ' G2 H' a2
    | ct ρ' => exact fun σ' G' H' a' => let ⟨G2, a2⟩ := a'.less hO; p σ' G2 H' a2
    | rt d => exact p
  | exc c => rw [e] at p; exact p
  | bad => rw [e] at p; exact p
theorem dss_cons {O1 : List Nat} {st : Stmt} {rest : List Stmt} {f g : Ms B} (h1 : DS X B O O1 st f) (h2 : DSs X B O1 O' rest g) (hO : ∀ i ∈ O', i ∈ O1 := by decide) : DSs X B O O' (st :: rest) (sSeq f g) := PSs.imp (pss_cons h1 h2) fun D σ H q => rd_seq q hO
theorem dss_one {st : Stmt} {f : Ms B} (h1 : DS X B O O' st f) : DSs X B O O' [st] f := pss_one h1
end
end DL

/-! DL6: the statements -/
namespace DL
open PySem PySem.Spec PyProof.Rows L2
section
variable {X : Cx} {B : Bs} {O O' : List Nat}
theorem rdE.thenS {f : Mx B PD} {σ : St} {H : Hp} {Q : VK} {D : Ends} {G : Hp} {ρ : Env} {s : B.W.d} {k : PD → B.W.d → R (Fl × B.W.d)}
    (a : At B O σ H G ρ s) (p : PostS B O' D (bnd (f ρ s) k)) (h : ∀ v G1 H1 d s1, At B O σ H1 G1 ρ s1 → Gr B.W.fp G H G1 H1 → Rp B.W.tk G1 v d → PostS B O' D (k d s1) → Q v H1) : rdE B O f σ H Q :=
  rdE.fst a (fun _ _ r => PostS B O' D r) (fun _ p => p) (fun p G' H' g => p G' H' (a.gr.trans g)) (fun p => p) p h
theorem rdT.thenS {f : Mx B Bool} {σ : St} {H : Hp} {Q : Bool → Hp → Prop} {D : Ends} {G : Hp} {ρ : Env} {s : B.W.d} {k : Bool → B.W.d → R (Fl × B.W.d)}
    (a : At B O σ H G ρ s) (p : PostS B O' D (bnd (f ρ s) k)) (h : ∀ x G1 H1 s1, At B O σ H1 G1 ρ s1 → Gr B.W.fp G H G1 H1 → PostS B O' D (k x s1) → Q x H1) : rdT B O f σ H Q :=
  rdT.fst a (fun _ _ r => PostS B O' D r) (fun _ p => p) (fun p G' H' g => p G' H' (a.gr.trans g)) (fun p => p) p h
theorem rdA.thenS {f : Mx B (List PD)} {σ : St} {H : Hp} {Q : List V → Hp → Prop} {D : Ends} {G : Hp} {ρ : Env} {s : B.W.d} {k : List PD → B.W.d → R (Fl × B.W.d)}
    (a : At B O σ H G ρ s) (p : PostS B O' D (bnd (f ρ s) k)) (h : ∀ vs G1 H1 ds s1, At B O σ H1 G1 ρ s1 → Gr B.W.fp G H G1 H1 → RpAll B.W.tk G1 vs ds → PostS B O' D (k ds s1) → Q vs H1) : rdA B O f σ H Q :=
  rdA.fst a (fun _ _ r => PostS B O' D r) (fun _ p => p) (fun p G' H' g => p G' H' (a.gr.trans g)) (fun p => p) p h

/-! ### x = e, targets = e -/
def sSet {d : Type} (i : Nat) (f : Env → d → R (PD × d)) : Env → d → R (Fl × d) := fun ρ s => bnd (f ρ s) fun x s1 => .ok (.nx (ρ.set i (some x)), s1)
theorem ds_set (i : Nat) {x : Str} {e : Expr} {fe : Mx B PD} {pos pos' : Pos} (hN : X.N.Nodup) (he : DE X B O e fe) (hi : X.N[i]? = some x := by rfl) (hx : Loc X.env.scope x := by first | exact Or.inl rfl | exact Or.inr rfl) (hO : i ∉ O := by decide)
    (hs : swapsWith e (some (.Name x pos')) pos.line X.env = pure false := by rfl) (hf : X.fn x = true ∨ X.env.scope.names.lookup x = some .local := by first | exact .inl rfl | exact .inr rfl) : DS X B O O (.Assign [.Name x pos'] e pos) (sSet i fe) :=
  PS.imp (ps_set hN hi hx he hs hf) fun D σ H h => by
    obtain ⟨G, ρ, s, a, p⟩ := h
    refine rdE.thenS a p fun v G1 H1 d s1 a1 g1 rv p1 => ?_
    exact p1 _ G1 H1 ⟨a1.sit, a1.gr, a1.rs.set rv hO⟩
def sAsg {d : Type} (b : Bd) (f : Env → d → R (PD × d)) : Env → d → R (Fl × d) := fun ρ s => bnd (f ρ s) fun x s1 => match b x ρ with
  | some ρ' => .ok (.nx ρ', s1)
  | none => .bad
theorem ds_asg {tg e : Expr} {b : Bd} {sl : List Nat} {fe : Mx B PD} {pos : Pos} (he : DE X B O e fe) (hg : DG X B O tg b sl) (hs : swapsWithSole [tg] e pos.line X.env = pure false := by rfl) (hw : swappedStores [tg] e X.env = pure none := by rfl)
    (h1 : (assignEach [tg] X.env).map (·.2) = [assign tg X.env] := by rfl) : DS X B O O (.Assign [tg] e pos) (sAsg b fe) :=
  PS.imp (ps_asg he hg hs hw h1) fun D σ H h => by
    obtain ⟨G, ρ, s, a, p⟩ := h
    refine rdE.thenS a p fun v G1 H1 d s1 a1 g1 rv p1 => ?_
    cases e1 : b d ρ with
    | none => rw [e1] at p1; exact p1.elim
    | some ρ' =>
      rw [e1] at p1
      exact ⟨G1, ρ, d, ρ', a1.sit.sub, a1.rs, rv, e1, fun σ' rs' _ => p1 σ' G1 H1 ⟨a1.sit, a1.gr, rs'⟩⟩
/-- a, b = x, y -/
def sPar {d : Type} (i j : Nat) (f : Env → d → R (List PD × d)) : Env → d → R (Fl × d) := fun ρ s => bnd (f ρ s) fun xs s1 => match xs with
  | [x, y] => .ok (.nx ((ρ.set i (some x)).set j (some y)), s1)
  | _ => .bad
theorem ds_par (i j : Nat) {x y : Str} {a b : Expr} {fa : Mx B (List PD)} {px py pt pos : Pos} {kt k2 : Nat} {pt2 : Pos} (hN : X.N.Nodup) (ha : DA X B O [a, b] fa) (hc : X.calm = true := by rfl) (hi : X.N[i]? = some x := by rfl) (hj : X.N[j]? = some y := by rfl) (hij : i ≠ j := by decide) (hOi : i ∉ O := by decide) (hOj : j ∉ O := by decide)
    (hx : X.env.scope.names.lookup x = some .local := by rfl) (hy : X.env.scope.names.lookup y = some .local := by rfl)
    (hw : swappedStores [.Tuple [.Name x px, .Name y py] kt pt] (.Tuple [a, b] k2 pt2) X.env = pure (some [x, y]) := by rfl)
    (hs : swapsWithSole [.Tuple [.Name x px, .Name y py] kt pt] (.Tuple [a, b] k2 pt2) pos.line X.env = pure false := by rfl) : DS X B O O (.Assign [.Tuple [.Name x px, .Name y py] kt pt] (.Tuple [a, b] k2 pt2) pos) (sPar i j fa) :=
  PS.imp (ps_par hc hN hi hj hij hx hy ha hw hs) fun D σ H h => by
    obtain ⟨G, ρ, s, a, p⟩ := h
    refine rdA.thenS a p fun vs G1 H1 ds s1 a1 g1 rv p1 => ?_
    cases rv with
    | nil => exact p1.elim
    | cons r1 r2 =>
      cases r2 with
      | nil => exact p1.elim
      | cons r2 r3 =>
        cases r3 with
        | nil => exact ⟨_, _, rfl, p1 _ G1 H1 ⟨a1.sit, a1.gr, (a1.rs.set r1 hOi).set r2 hOj⟩⟩
        | cons _ _ => exact p1.elim
def sPar3 {d : Type} (i j l : Nat) (f : Env → d → R (List PD × d)) : Env → d → R (Fl × d) := fun ρ s => bnd (f ρ s) fun xs s1 => match xs with
  | [x, y, z] => .ok (.nx (((ρ.set i (some x)).set j (some y)).set l (some z)), s1)
  | _ => .bad
theorem ds_par3 (i j l : Nat) {x y z : Str} {a b c : Expr} {fa : Mx B (List PD)} {px py pz pt pos : Pos} {kt k2 : Nat} {pt2 : Pos} (hN : X.N.Nodup) (ha : DA X B O [a, b, c] fa) (hc : X.calm = true := by rfl) (hi : X.N[i]? = some x := by rfl) (hj : X.N[j]? = some y := by rfl) (hl : X.N[l]? = some z := by rfl)
    (hij : i ≠ j := by decide) (hil : i ≠ l := by decide) (hjl : j ≠ l := by decide) (hOi : i ∉ O := by decide) (hOj : j ∉ O := by decide) (hOl : l ∉ O := by decide)
    (hx : X.env.scope.names.lookup x = some .local := by rfl) (hy : X.env.scope.names.lookup y = some .local := by rfl) (hz : X.env.scope.names.lookup z = some .local := by rfl)
    (hw : swappedStores [.Tuple [.Name x px, .Name y py, .Name z pz] kt pt] (.Tuple [a, b, c] k2 pt2) X.env = pure (some [x, y, z]) := by rfl)
    (hs : swapsWithSole [.Tuple [.Name x px, .Name y py, .Name z pz] kt pt] (.Tuple [a, b, c] k2 pt2) pos.line X.env = pure false := by rfl) : DS X B O O (.Assign [.Tuple [.Name x px, .Name y py, .Name z pz] kt pt] (.Tuple [a, b, c] k2 pt2) pos) (sPar3 i j l fa) :=
  PS.imp (ps_par3 hc hN hi hj hl hij hil hjl hx hy hz ha hw hs) fun D σ H h => by
    obtain ⟨G, ρ, s, a, p⟩ := h
    refine rdA.thenS a p fun vs G1 H1 ds s1 a1 g1 rv p1 => ?_
    cases rv with
    | nil => exact p1.elim
    | cons r1 r2 =>
      cases r2 with
      | nil => exact p1.elim
      | cons r2 r3 =>
        cases r3 with
        | nil => exact p1.elim
        | cons r3 r4 =>
          cases r4 with
          | nil => exact ⟨_, _, _, rfl, p1 _ G1 H1 ⟨a1.sit, a1.gr, ((a1.rs.set r1 hOi).set r2 hOj).set r3 hOl⟩⟩
          | cons _ _ => exact p1.elim
/-- x += e, ints -/
def sAug {d : Type} (i : Nat) (f : Env → d → R (PD × d)) : Env → d → R (Fl × d) := fun ρ s => match ρ[i]? with
  | some (some (.int a)) => bnd (f ρ s) fun x s1 => match x with
    | .int b => .ok (.nx (ρ.set i (some (.int (a + b)))), s1)
    | _ => .bad
  | _ => .bad
theorem ds_aug (i : Nat) {x : Str} {e : Expr} {fe : Mx B PD} {pos pos' : Pos} (hN : X.N.Nodup) (he : DE X B O e fe) (hi : X.N[i]? = some x := by rfl) (hx : Loc X.env.scope x := by first | exact Or.inl rfl | exact Or.inr rfl) (hO : i ∉ O := by decide)
    (hf : X.fn x = true ∨ X.env.scope.names.lookup x = some .local := by first | exact .inl rfl | exact .inr rfl) : DS X B O O (.AugAssign (.Name x pos') .Add e pos) (sAug i fe) :=
  PS.imp (ps_aug hN hi hx he ip_add hf) fun D σ H h => by
    obtain ⟨G, ρ, s, a, p⟩ := h
    unfold sAug at p
    split at p
    · rename_i k e1
      obtain ⟨v, h1, h2⟩ := a.rs.plain i _ e1 hO
      refine ⟨v, h1, ?_⟩
      refine rdE.thenS a p fun w G1 H1 d s1 a1 g1 rv p1 => ?_
      cases d with
      | int b => exact ⟨_, _, (h2.dg (isD_tok rfl)).of_int, (rv.dg (isD_tok rfl)).of_int, p1 _ G1 H1 ⟨a1.sit, a1.gr, a1.rs.set (.inl (.int _)) hO⟩⟩
      | _ => exact p1.elim
    · exact p.elim
/-! ### return, if, an expression, pass -/
def sRet {d : Type} (f : Env → d → R (PD × d)) : Env → d → R (Fl × d) := fun ρ s => bnd (f ρ s) fun x s1 => .ok (.rt x, s1)
theorem ds_ret {e : Expr} {fe : Mx B PD} {pos : Pos} (he : DE X B O e fe) : DS X B O O' (.Return (some e) pos) (sRet fe) :=
  PS.imp (ps_ret he) fun D σ H h => by
    obtain ⟨G, ρ, s, a, p⟩ := h
    exact rdE.thenS a p fun v G1 H1 d s1 a1 g1 rv p1 => p1 v G1 H1 a1.gr a1.sit rv
def sIf {d : Type} (t : Env → d → R (Bool × d)) (f g : Env → d → R (Fl × d)) : Env → d → R (Fl × d) := fun ρ s => bnd (t ρ s) fun x s1 => if x = true then f ρ s1 else g ρ s1
theorem ds_if {c : Expr} {a b : List Stmt} {fc : Mx B Bool} {f g : Ms B} {pos : Pos} (hc : DT X B O c fc) (ha : DSs X B O O' a f) (hb : DSs X B O O' b g) : DS X B O O' (.If c a b pos) (sIf fc f g) :=
  PS.imp (ps_if hc ha hb) fun D σ H h => by
    obtain ⟨G, ρ, s, a, p⟩ := h
    refine rdT.thenS a p fun x G1 H1 s1 a1 g1 p1 => ?_
    cases x with
    | true => exact ⟨G1, ρ, s1, a1, p1⟩
    | false => exact ⟨G1, ρ, s1, a1, p1⟩
def sExpr {d : Type} (f : Env → d → R (PD × d)) : Env → d → R (Fl × d) := fun ρ s => bnd (f ρ s) fun _ s1 => .ok (.nx ρ, s1)
theorem ds_expr {e : Expr} {fe : Mx B PD} {pos : Pos} (he : DE X B O e fe) (hs : swapsWith e none pos.line X.env = pure false := by rfl) : DS X B O O (.Expr e pos) (sExpr fe) :=
  PS.imp (ps_expr he hs) fun D σ H h => by
    obtain ⟨G, ρ, s, a, p⟩ := h
    exact rdE.thenS a p fun v G1 H1 d s1 a1 g1 rv p1 => p1 σ G1 H1 a1
theorem ds_pass {pos : Pos} : DS X B O O (.Pass pos) sNil := PS.imp ps_pass fun D σ H h => by
  obtain ⟨G, ρ, s, a, p⟩ := h
  exact p σ G H a
theorem ds_cont {pos : Pos} : DS X B O O (.Continue pos) (fun ρ s => .ok (.ct ρ, s)) := PS.imp ps_continue fun D σ H h => by
  obtain ⟨G, ρ, s, a, p⟩ := h
  exact p σ G H a
/-- a statement that is never come to -/
def sBad {d : Type} : Env → d → R (Fl × d) := fun _ _ => .bad
theorem ds_bad {st : Stmt} : DS X B O O' st sBad := PS.imp ps_never fun D σ H h => by
  obtain ⟨G, ρ, s, a, p⟩ := h
  exact p
/-! ### raise -/
structure ExcC (X : Cx) (B : Bs) (c : Nat) (x : Str) : Prop where
  exc : PySem.W.excIn X.K (B.W.cls c) [.type "ValueError", .type "Exception", .type "BaseException", .type "object"] "ValueError.__new__" = true
  glob : X.mg x = some (.ref (B.W.cls c))
  keep : PySem.W.keepIn X.K (.ref (B.W.cls c)) = true
  rais : Raises X (.ref (B.W.cls c))
def sRaise {d : Type} (c : Nat) : Env → d → R (Fl × d) := fun _ _ => .exc c
theorem ds_raise {c : Nat} {x m : Str} {j : Nat} {p p2 p3 pos : Pos} (tk : Takes X (fun cls d _ H => B.E cls d H)) (C : ExcC X B c x) (hc : X.calm = true := by rfl) (hg : Gl X x := by rfl) (hdb : (x == ("__debug__" : Str)) = false := by decide) :
    DS X B O O' (.Raise (some (.Call (.Name x p) [.Constant (.str m) j p2] [] p3)) none pos) (sRaise c) :=
  PS.imp (ps_raise hc tk (pmk_own PySem.F.excBase_ValueError C.exc C.glob C.keep C.rais hg hdb)) fun D σ H h => by
    obtain ⟨G, ρ, s, a, q⟩ := h
    exact q G H a.gr

/-! ### for -/
/-- an iterator that yields these data -/
def ItOk (G : Hp) (J : It) (items : List PD) : Prop := ∀ (i : Nat) (G1 H1 : Hp), Sub G G1 → Sub G1 H1 →
  (i < items.length → J.go i H1) ∧ (items.length ≤ i → J.stop i H1) ∧
  ∀ x H2 d, items[i]? = some d → J.yld i H1 x H2 → ∃ G2, Gr (fun _ => False) G1 H1 G2 H2 ∧ Sub G2 H2 ∧ Dg G2 x d
def PostI (B : Bs) (G H : Hp) (r : R (List PD × B.W.d)) (R : It → Hp → Prop) : Prop :=
  match r with
  | .ok (items, s') => ∀ J G' H', Gr B.W.fp G H G' H' → Sit B.W G' H' s' → ItOk G' J items → R J H'
  | .exc c => ∀ G' H', Gr B.W.fp G H G' H' → B.E (.ref (B.W.cls c)) none H'
  | .bad => False
theorem PostI.mono {G H G1 H1 : Hp} {r : R (List PD × B.W.d)} {R : It → Hp → Prop} (g : Gr B.W.fp G H G1 H1) (h : PostI B G H r R) : PostI B G1 H1 r R := by
  cases r with
  | ok x => exact fun v G' H' g' S' R' => h v G' H' (g.trans g') S' R'
  | exc c => exact fun G' H' g' => h G' H' (g.trans g')
  | bad => exact h
def rdI (B : Bs) (O : List Nat) (f : Mx B (List PD)) : TI := fun σ H R => ∃ G ρ s, At B O σ H G ρ s ∧ PostI B G H (f ρ s) R
abbrev DI (X : Cx) (B : Bs) (O : List Nat) (tg e : Expr) (f : Mx B (List PD)) : Prop := PI X tg e (rdI B O f)
def sForGo {d : Type} (b : Bd) (body : Env → d → R (Fl × d)) : List PD → Env → d → R (Fl × d)
  | [], ρ, s => .ok (.nx ρ, s)
  | x :: xs, ρ, s => match b x ρ with
    | none => .bad
    | some ρ1 => match body ρ1 s with
      | .ok (.nx ρ2, s2) => sForGo b body xs ρ2 s2
      | .ok (.ct ρ2, s2) => sForGo b body xs ρ2 s2
      | .ok (.bk ρ2, s2) => .ok (.nx ρ2, s2)
      | .ok (.rt v, s2) => .ok (.rt v, s2)
      | .exc c => .exc c
      | .bad => .bad
def sFor {d : Type} (it : Env → d → R (List PD × d)) (b : Bd) (body : Env → d → R (Fl × d)) : Env → d → R (Fl × d) := fun ρ s => bnd (it ρ s) fun xs s1 => sForGo b body xs ρ s1
/-- the ghost heap's ground raised -/
abbrev Bs.up (B : Bs) (g : Hp) : Bs := { B with G0 := g }
theorem Gr.back {fp : Addr → Prop} {G0 H0 G1 H1 G2 H2 : Hp} (a : Gr fp G0 H0 G1 H1) (b : Gr fp G1 H0 G2 H2) : Gr fp G0 H0 G2 H2 :=
  ⟨fun x o h => b.g x o (a.g x o h), b.h, b.dom, fun x o h => by
    rcases b.new x o h with z | z
    · exact a.new x o z
    · exact .inr z⟩
theorem At.up {σ : St} {H G : Hp} {ρ : Env} {s : B.W.d} (a : At B O σ H G ρ s) : At (B.up G) O σ H G ρ s := ⟨a.sit, ⟨fun _ _ h => h, a.gr.h, a.gr.dom, fun _ _ h => .inl h⟩, a.rs⟩
theorem At.down {σ : St} {H G G1 H1 : Hp} {ρ : Env} {s : B.W.d} (g : Gr B.W.fp B.G0 B.H0 G1 H1) (a : At (B.up G1) O σ H G ρ s) : At B O σ H G ρ s := ⟨a.sit, g.back a.gr, a.rs⟩
theorem ds_for {tg iter : Expr} {body : List Stmt} {fi : Mx B (List PD)} {b : Bd} {sl : List Nat} {f : Ms B} {pos : Pos} (hp : PassesOwn (model X.prog X.w) X.A X.env X.xe) (hi : DI X B O tg iter fi) (hg : DG X B O tg b sl) (hb : ∀ g : Hp, DSs X (B.up g) O O body f) (hc : X.calm = true := by rfl)
    (hs : ∀ x, foldedSetIterable iter X.env x = pure x := by intro _; rfl) : DS X B O O (.For tg iter body [] pos) (sFor fi b f) := by
  have hb' : PSs X body (fun D σ H => ∃ g, rdS (B.up g) O O f D σ H) := ⟨fun pins s σ H D I h => by
    obtain ⟨g, h⟩ := h
    exact (hb g).run pins s σ H D I h⟩
  refine PS.imp (ps_for hp hc hi hg hb' hs) fun D σ H h => ?_
  obtain ⟨G, ρ, s, a, p⟩ := h
  refine ⟨G, ρ, s, a, ?_⟩
  unfold sFor at p
  cases e : fi ρ s with
  | exc c => rw [e] at p; exact fun G' H' g => p G' H' (a.gr.trans g)
  | bad => rw [e] at p; exact p.elim
  | ok x =>
    obtain ⟨items, s1⟩ := x
    rw [e] at p
    intro J G1 H1 g1 S1 ok
    have a1 := a.step g1 S1
    refine ⟨fun i m σ H => i + m = items.length ∧ ∃ G ρ s, At (B.up G1) O σ H G ρ s ∧ PostS B O D (sForGo b f (items.drop i) ρ s), ⟨items.length, by omega, G1, ρ, s1, a1.up, p⟩, fun i m σ H hW => ?_⟩
    obtain ⟨em, G, ρ, s, a, p⟩ := hW
    by_cases hl : i < items.length
    · obtain ⟨go, _, yl⟩ := ok i G H a.gr.g a.sit.sub
      refine .inr ⟨go hl, fun σ' H' => ∃ G ρ s, At (B.up G1) O σ' H' G ρ s ∧ PostS B O D (sForGo b f (items.drop (i + 1)) ρ s), fun σ' H' hN => ?_, fun x H' hy => ?_⟩
      · obtain ⟨G', ρ', s', q2, q3⟩ := hN
        exact ⟨m - 1, by omega, by omega, G', ρ', s', q2, q3⟩
      · obtain ⟨G2, g2, sb2, dx⟩ := yl x H' items[i] (List.getElem?_eq_getElem hl) hy
        have a2 := a.step (g2.weak fun _ z => z.elim) (a.sit.pure g2 sb2)
        rw [List.drop_eq_getElem_cons hl] at p
        unfold sForGo at p
        cases eb : b items[i] ρ with
        | none => rw [eb] at p; exact p.elim
        | some ρ1 =>
          rw [eb] at p
          dsimp only at p
          refine ⟨G2, ρ, items[i], ρ1, sb2, a2.rs, .inl dx, eb, fun σ' rs' _ => ⟨G1, G2, ρ1, s, ⟨a2.sit, a2.gr, rs'⟩, ?_⟩⟩
          cases ef : f ρ1 s with
          | bad => rw [ef] at p; exact p.elim
          | exc c => rw [ef] at p; exact fun G' H' g => p G' H' (a1.gr.back g)
          | ok y =>
            obtain ⟨fl, s2⟩ := y
            rw [ef] at p
            cases fl with
            | nx ρ2 => exact fun σ'' G'' H'' a'' => ⟨G'', ρ2, s2, a'', p⟩
            | ct ρ2 => exact fun σ'' G'' H'' a'' => ⟨G'', ρ2, s2, a'', p⟩
            | bk ρ2 => exact fun σ'' G'' H'' a'' => p σ'' G'' H'' (At.down a1.gr a'')
            | rt v => exact fun w G'' H'' g'' S'' r'' => p w G'' H'' (a1.gr.back g'') S'' r''
    · have hge : items.length ≤ i := by omega
      obtain ⟨_, st, _⟩ := ok i G H a.gr.g a.sit.sub
      refine .inl ⟨st hge, ?_⟩
      rw [List.drop_eq_nil_of_le hge] at p
      exact p σ G H (At.down a1.gr a)

/-! ### while -/
def sWhGo {d : Type} (t : Env → d → R (Bool × d)) (body : Env → d → R (Fl × d)) : Nat → Env → d → R (Fl × d)
  | 0, _, _ => .bad
  | n + 1, ρ, s => bnd (t ρ s) fun x s1 => if x = true then
      match body ρ s1 with
      | .ok (.nx ρ2, s2) => sWhGo t body n ρ2 s2
      | .ok (.ct ρ2, s2) => sWhGo t body n ρ2 s2
      | .ok (.bk ρ2, s2) => .ok (.nx ρ2, s2)
      | .ok (.rt v, s2) => .ok (.rt v, s2)
      | .exc c => .exc c
      | .bad => .bad
    else .ok (.nx ρ, s1)
def sWhile {d : Type} (n : Env → Nat) (t : Env → d → R (Bool × d)) (body : Env → d → R (Fl × d)) : Env → d → R (Fl × d) := fun ρ s => sWhGo t body (n ρ) ρ s
theorem ds_while {c : Expr} {body : List Stmt} {n : Env → Nat} {fc : Mx B Bool} {f : Ms B} {pos : Pos} (hp : PassesOwn (model X.prog X.w) X.A X.env X.xe) (hc : DT X B O c fc) (hb : DSs X B O O body f) : DS X B O O (.While c body [] pos) (sWhile n fc f) := by
  refine PS.imp (ps_while hp hc hb) fun D σ H h => ?_
  obtain ⟨G, ρ, s, a, p⟩ := h
  refine ⟨fun m σ H => ∃ G ρ s, At B O σ H G ρ s ∧ PostS B O D (sWhGo fc f m ρ s), ⟨n ρ, G, ρ, s, a, p⟩, fun m σ H hW => ?_⟩
  obtain ⟨G, ρ, s, a, p⟩ := hW
  cases m with
  | zero => exact p.elim
  | succ m =>
    unfold sWhGo at p
    refine rdT.thenS a p fun x G1 H1 s1 a1 g1 p1 => ?_
    cases x with
    | false => exact p1 σ G1 H1 a1
    | true =>
      refine ⟨fun σ' H' => ∃ G ρ s, At B O σ' H' G ρ s ∧ PostS B O D (sWhGo fc f m ρ s), fun σ' H' hN => ⟨m, Nat.lt_succ_self m, hN⟩, G1, ρ, s1, a1, ?_⟩
      rw [if_pos rfl] at p1
      cases ef : f ρ s1 with
      | bad => rw [ef] at p1; exact p1.elim
      | exc c => rw [ef] at p1; exact p1
      | ok y =>
        obtain ⟨fl, s2⟩ := y
        rw [ef] at p1
        cases fl with
        | nx ρ2 => exact fun σ'' G'' H'' a'' => ⟨G'', ρ2, s2, a'', p1⟩
        | ct ρ2 => exact fun σ'' G'' H'' a'' => ⟨G'', ρ2, s2, a'', p1⟩
        | bk ρ2 => exact fun σ'' G'' H'' a'' => p1 σ'' G'' H'' a''
        | rt v => exact p1
end
end DL

/-! DL7: what is walked; comprehensions -/
namespace DL
open PySem PySem.Spec PyProof.Rows L2
section
variable {X : Cx} {B : Bs} {O O' : List Nat} {tg : Expr}
theorem rdE.thenI {f : Mx B PD} {σ : St} {H : Hp} {Q : VK} {R' : It → Hp → Prop} {G : Hp} {ρ : Env} {s : B.W.d} {k : PD → B.W.d → R (List PD × B.W.d)}
    (a : At B O σ H G ρ s) (p : PostI B G H (bnd (f ρ s) k) R') (h : ∀ v G1 H1 d s1, At B O σ H1 G1 ρ s1 → Gr B.W.fp G H G1 H1 → Rp B.W.tk G1 v d → PostI B G1 H1 (k d s1) R' → Q v H1) : rdE B O f σ H Q :=
  rdE.fst a (fun G H r => PostI B G H r R') (fun g p => p.mono g) (fun p => p) (fun p => p) p h
theorem rdA.thenI {f : Mx B (List PD)} {σ : St} {H : Hp} {Q : List V → Hp → Prop} {R' : It → Hp → Prop} {G : Hp} {ρ : Env} {s : B.W.d} {k : List PD → B.W.d → R (List PD × B.W.d)}
    (a : At B O σ H G ρ s) (p : PostI B G H (bnd (f ρ s) k) R') (h : ∀ vs G1 H1 ds s1, At B O σ H1 G1 ρ s1 → Gr B.W.fp G H G1 H1 → RpAll B.W.tk G1 vs ds → PostI B G1 H1 (k ds s1) R' → Q vs H1) : rdA B O f σ H Q :=
  rdA.fst a (fun G H r => PostI B G H r R') (fun g p => p.mono g) (fun p => p) (fun p => p) p h
theorem sq_inj {K : PySem.W.Frag} {H : Hp} {a : Addr} {xs ys : List V} (h : H a = some (.lst xs)) (hy : Rd H a (.lst ys)) : ys = xs := by
  rcases hy with z | ⟨o, z⟩
  · rw [h] at z; cases z; rfl
  · rw [h] at z; cases z
/-- a list walked -/
def iLst {d : Type} (f : Env → d → R (PD × d)) : Env → d → R (List PD × d) := fun ρ s => bnd (f ρ s) fun x s1 => match x with
  | .list xs => .ok (xs, s1)
  | _ => .bad
def iTp {d : Type} (f : Env → d → R (PD × d)) : Env → d → R (List PD × d) := fun ρ s => bnd (f ρ s) fun x s1 => match x with
  | .tuple xs => .ok (xs, s1)
  | _ => .bad
theorem it_list {K : PySem.W.Frag} {G : Hp} {a : Addr} {xs : List V} {ds : List PD} (ga : G a = some (.lst xs)) (da : DgAll G xs ds) : ItOk G (Itl K a) ds := fun i G1 H1 s1 s2 => by
  have h1 : H1 a = some (.lst xs) := s2 _ _ (s1 _ _ ga)
  refine ⟨fun hl => ?_, fun hl => ⟨xs, SqL.of h1, by rw [da.len]; exact hl⟩, fun x H2 d e hy => ?_⟩
  · obtain ⟨v, e1, _⟩ := da.get (List.getElem?_eq_getElem hl)
    exact ⟨xs, v, SqL.of h1, e1⟩
  · obtain ⟨rfl, q⟩ := hy
    obtain ⟨v, e1, r⟩ := da.get e
    have e2 := q xs (SqL.of h1)
    rw [e1] at e2; cases e2
    exact ⟨G1, .refl, s2, r.mono s1⟩
theorem it_tup {K : PySem.W.Frag} {G : Hp} {a : Addr} {xs : List V} {ds : List PD} (ga : G a = some (.tup xs)) (da : DgAll G xs ds) : ItOk G (Itt K a) ds := fun i G1 H1 s1 s2 => by
  have h1 : H1 a = some (.tup xs) := s2 _ _ (s1 _ _ ga)
  refine ⟨fun hl => ?_, fun hl => ⟨xs, SqT.of h1, by rw [da.len]; exact hl⟩, fun x H2 d e hy => ?_⟩
  · obtain ⟨v, e1, _⟩ := da.get (List.getElem?_eq_getElem hl)
    exact ⟨xs, v, SqT.of h1, e1⟩
  · obtain ⟨rfl, q⟩ := hy
    obtain ⟨v, e1, r⟩ := da.get e
    have e2 := q xs (SqT.of h1)
    rw [e1] at e2; cases e2
    exact ⟨G1, .refl, s2, r.mono s1⟩
theorem di_list {e : Expr} {f : Mx B PD} (he : DE X B O e f) : DI X B O tg e (iLst f) := PI.imp (pi_list he) fun σ H R h => by
  obtain ⟨G, ρ, s, a, p⟩ := h
  refine rdE.thenI a p fun v G1 H1 d s1 a1 g1 rv p1 => ?_
  cases d with
  | list ds =>
    obtain ⟨l, vs, rfl, gl, dl⟩ := (rv.dg (isD_tok rfl)).of_lst
    exact ⟨l, rfl, ⟨vs, SqL.of (a1.sit.sub _ _ gl)⟩, p1 _ G1 H1 .refl a1.sit (it_list gl dl)⟩
  | _ => exact p1.elim
theorem di_tup {e : Expr} {f : Mx B PD} (he : DE X B O e f) : DI X B O tg e (iTp f) := PI.imp (pi_tup he) fun σ H R h => by
  obtain ⟨G, ρ, s, a, p⟩ := h
  refine rdE.thenI a p fun v G1 H1 d s1 a1 g1 rv p1 => ?_
  cases d with
  | tuple ds =>
    obtain ⟨l, vs, rfl, gl, dl⟩ := (rv.dg (isD_tok rfl)).of_tup
    exact ⟨l, rfl, ⟨vs, SqT.of (a1.sit.sub _ _ gl)⟩, p1 _ G1 H1 .refl a1.sit (it_tup gl dl)⟩
  | _ => exact p1.elim
/-- range -/
def rngL (lo c : Int) (n : Nat) : List PD := (List.range n).map fun (i : Nat) => PyData.int (lo + (i : Int) * c)
theorem it_rng {G : Hp} {lo : Int} {n : Nat} : ItOk G (Itr lo n) (rngL lo 1 n) := fun i G1 H1 s1 s2 => by
  have hl : (rngL lo 1 n).length = n := by simp [rngL]
  rw [hl]
  refine ⟨fun h => h, fun h => h, fun x H2 d e hy => ?_⟩
  obtain ⟨rfl, rfl⟩ := hy
  have hi : i < n := by
    have := (List.getElem?_eq_some_iff.mp e).1
    rwa [hl] at this
  have e2 : d = .int (lo + i) := by
    unfold rngL at e
    rw [List.getElem?_map, List.getElem?_range hi, Option.map_some, Option.some.injEq, Int.mul_one] at e
    exact e.symm
  subst e2
  exact ⟨G1, .refl, s2, .int _⟩
theorem it_rngC {G : Hp} {lo c : Int} {n : Nat} : ItOk G (Itc lo c n) (rngL lo c n) := fun i G1 H1 s1 s2 => by
  have hl : (rngL lo c n).length = n := by simp [rngL]
  rw [hl]
  refine ⟨fun h => h, fun h => h, fun x H2 d e hy => ?_⟩
  obtain ⟨rfl, rfl⟩ := hy
  have hi : i < n := by
    have := (List.getElem?_eq_some_iff.mp e).1
    rwa [hl] at this
  have e2 : d = .int (lo + i * c) := by
    unfold rngL at e
    rw [List.getElem?_map, List.getElem?_range hi, Option.map_some, Option.some.injEq] at e
    exact e.symm
  subst e2
  exact ⟨G1, .refl, s2, .int _⟩
def in62 (i : Int) : Bool := decide (-(2 ^ 62) ≤ i) && decide (i < 2 ^ 62)
def iRg1 {d : Type} (f : Env → d → R (List PD × d)) : Env → d → R (List PD × d) := fun ρ s => bnd (f ρ s) fun xs s1 => match xs with
  | [.int j] => if in62 j then .ok (rngL 0 1 j.toNat, s1) else .bad
  | _ => .bad
def iRg2 {d : Type} (f : Env → d → R (List PD × d)) : Env → d → R (List PD × d) := fun ρ s => bnd (f ρ s) fun xs s1 => match xs with
  | [.int i, .int j] => if in62 i && in62 j then .ok (rngL i 1 (j - i).toNat, s1) else .bad
  | _ => .bad
def iRg3 {d : Type} (f : Env → d → R (List PD × d)) : Env → d → R (List PD × d) := fun ρ s => bnd (f ρ s) fun xs s1 => match xs with
  | [.int i, .int j, .int c] => if in62 i && in62 j && decide (c = -1) then .ok (rngL i (-1) (i - j).toNat, s1) else .bad
  | _ => .bad
theorem in62_of {i : Int} (h : in62 i = true) : -(2 ^ 62) ≤ i ∧ i < 2 ^ 62 := by
  unfold in62 at h
  rw [Bool.and_eq_true, decide_eq_true_eq, decide_eq_true_eq] at h
  exact h
theorem di_range1 {a : Expr} {fa : Mx B (List PD)} {p pos : Pos} (hm : X.mg "range" = none) (ha : DA X B O [a] fa) (hg : Gl X "range" := by rfl) (hs : starEach [a] X.env = [(false, eval a X.env)] := by rfl) : DI X B O tg (.Call (.Name "range" p) [a] [] pos) (iRg1 fa) := PI.imp (pi_range1 hg hm ha hs) fun σ H R h => by
  obtain ⟨G, ρ, s, a, p⟩ := h
  refine rdA.thenI a p fun vs G1 H1 ds s1 a1 g1 rv p1 => ?_
  split at p1
  · rename_i j
    split at p1
    · rename_i hj
      have q := in62_of hj
      cases rv with
      | cons r1 r2 =>
        cases r2
        exact ⟨j, by rw [(r1.dg (isD_tok rfl)).of_int], q.1, q.2, p1 _ G1 H1 .refl a1.sit it_rng⟩
    · exact p1.elim
  · exact p1.elim
theorem di_range2 {a b : Expr} {fa : Mx B (List PD)} {p pos : Pos} (hm : X.mg "range" = none) (ha : DA X B O [a, b] fa) (hg : Gl X "range" := by rfl) (hs : starEach [a, b] X.env = [(false, eval a X.env), (false, eval b X.env)] := by rfl) (hs2 : starEach [b] X.env = [(false, eval b X.env)] := by rfl) : DI X B O tg (.Call (.Name "range" p) [a, b] [] pos) (iRg2 fa) := PI.imp (pi_range2 hg hm ha hs hs2) fun σ H R h => by
  obtain ⟨G, ρ, s, a, p⟩ := h
  refine rdA.thenI a p fun vs G1 H1 ds s1 a1 g1 rv p1 => ?_
  split at p1
  · rename_i i j
    split at p1
    · rename_i hj
      rw [Bool.and_eq_true] at hj
      cases rv with
      | cons r1 r2 =>
        cases r2 with
        | cons r2 r3 =>
          cases r3
          exact ⟨i, j, by rw [(r1.dg (isD_tok rfl)).of_int, (r2.dg (isD_tok rfl)).of_int], ⟨(in62_of hj.1).1, (in62_of hj.1).2, (in62_of hj.2).1, (in62_of hj.2).2⟩, p1 _ G1 H1 .refl a1.sit it_rng⟩
    · exact p1.elim
  · exact p1.elim
theorem di_range3 {a b c : Expr} {fa : Mx B (List PD)} {p pos : Pos} (hm : X.mg "range" = none) (ha : DA X B O [a, b, c] fa) (hg : Gl X "range" := by rfl) (hs : starEach [a, b, c] X.env = (false, eval a X.env) :: starEach [b, c] X.env := by rfl) (hpl : (backTo pos (starEach [b, c] X.env)).any (·.1) = false := by rfl) : DI X B O tg (.Call (.Name "range" p) [a, b, c] [] pos) (iRg3 fa) := PI.imp (pi_range3 hg hm ha hs hpl) fun σ H R h => by
  obtain ⟨G, ρ, s, a, p⟩ := h
  refine rdA.thenI a p fun vs G1 H1 ds s1 a1 g1 rv p1 => ?_
  split at p1
  · rename_i i j c
    split at p1
    · rename_i hj
      rw [Bool.and_eq_true, Bool.and_eq_true, decide_eq_true_eq] at hj
      obtain ⟨⟨h1, h2⟩, rfl⟩ := hj
      cases rv with
      | cons r1 r2 =>
        cases r2 with
        | cons r2 r3 =>
          cases r3 with
          | cons r3 r4 =>
            cases r4
            exact ⟨i, j, -1, (i - j).toNat, by rw [(r1.dg (isD_tok rfl)).of_int, (r2.dg (isD_tok rfl)).of_int, (r3.dg (isD_tok rfl)).of_int], RgC.neg (in62_of h1).1 (in62_of h1).2 (in62_of h2).1 (in62_of h2).2, p1 _ G1 H1 .refl a1.sit it_rngC⟩
    · exact p1.elim
  · exact p1.elim
/-- zip, enumerate of lists -/
def zipD : List PD → List PD → List PD
  | x :: xs, y :: ys => .tuple [x, y] :: zipD xs ys
  | _, _ => []
theorem zipD_len : ∀ (xs ys : List PD), (zipD xs ys).length = min xs.length ys.length
  | [], _ => by simp [zipD]
  | _ :: _, [] => by simp [zipD]
  | x :: xs, y :: ys => by simp [zipD, zipD_len xs ys]
theorem zipD_get : ∀ (xs ys : List PD) (i : Nat) (d : PD), (zipD xs ys)[i]? = some d → ∃ x y, xs[i]? = some x ∧ ys[i]? = some y ∧ d = .tuple [x, y]
  | [], _, _, _, h => by simp [zipD] at h
  | _ :: _, [], _, _, h => by simp [zipD] at h
  | x :: xs, y :: ys, 0, d, h => by simp [zipD] at h; exact ⟨x, y, rfl, rfl, h.symm⟩
  | x :: xs, y :: ys, i + 1, d, h => by
    simp only [zipD, List.getElem?_cons_succ] at h
    obtain ⟨a, b, h1, h2, h3⟩ := zipD_get xs ys i d h
    exact ⟨a, b, by simpa using h1, by simpa using h2, h3⟩
theorem it_zip {K : PySem.W.Frag} {G : Hp} {a b : Addr} {xs ys : List V} {ds es : List PD} (ga : G a = some (.lst xs)) (da : DgAll G xs ds) (gb : G b = some (.lst ys)) (db : DgAll G ys es) : ItOk G (Itz K a b) (zipD ds es) := fun i G1 H1 s1 s2 => by
  have h1 : H1 a = some (.lst xs) := s2 _ _ (s1 _ _ ga)
  have h2 : H1 b = some (.lst ys) := s2 _ _ (s1 _ _ gb)
  have hl := zipD_len ds es
  refine ⟨fun h => ?_, fun h => ⟨xs, ys, SqL.of h1, SqL.of h2, ?_⟩, fun x H2 d e hy => ?_⟩
  · obtain ⟨v, e1, _⟩ := da.get (List.getElem?_eq_getElem (show i < ds.length by omega))
    obtain ⟨w, e2, _⟩ := db.get (List.getElem?_eq_getElem (show i < es.length by omega))
    exact ⟨xs, ys, v, w, SqL.of h1, SqL.of h2, e1, e2⟩
  · rw [da.len, db.len]; omega
  · obtain ⟨T, v, w, rfl, nT, rfl, q1, q2⟩ := hy
    obtain ⟨x, y, e1, e2, rfl⟩ := zipD_get ds es i d e
    obtain ⟨v', f1, r1⟩ := da.get e1
    obtain ⟨w', f2, r2⟩ := db.get e2
    have z1 := q1 xs (SqL.of h1)
    have z2 := q2 ys (SqL.of h2)
    rw [f1, Option.some.injEq] at z1
    rw [f2, Option.some.injEq] at z2
    subst z1 z2
    have g := Gr.alloc (fp := fun _ => False) (o := .tup [v', w']) s2 nT
    exact ⟨upd G1 T (.tup [v', w']), g, subA s2 nT, .tup upd_same (.cons ((r1.mono s1).mono g.g) (.cons ((r2.mono s1).mono g.g) .nil))⟩
def iZp {d : Type} (f : Env → d → R (List PD × d)) : Env → d → R (List PD × d) := fun ρ s => bnd (f ρ s) fun xs s1 => match xs with
  | [.list a, .list b] => .ok (zipD a b, s1)
  | _ => .bad
theorem di_zip {elts : List Expr} {kk : Nat} {tpos : Pos} {e e2 : Expr} {fa : Mx B (List PD)} {p pos : Pos} (hm : X.mg "zip" = none) (ha : DA X B O [e, e2] fa) (hg : Gl X "zip" := by rfl) (hs : starEach [e, e2] X.env = (false, eval e X.env) :: starEach [e2] X.env := by rfl) (hpl : (backTo pos (starEach [e2] X.env)).any (·.1) = false := by rfl) :
    DI X B O (.Tuple elts kk tpos) (.Call (.Name "zip" p) [e, e2] [] pos) (iZp fa) := PI.imp (pi_zip hg hm ha hs hpl) fun σ H R h => by
  obtain ⟨G, ρ, s, a, p⟩ := h
  refine rdA.thenI a p fun vs G1 H1 ds s1 a1 g1 rv p1 => ?_
  split at p1
  · rename_i xs ys
    cases rv with
    | cons r1 r2 =>
      cases r2 with
      | cons r2 r3 =>
        cases r3
        obtain ⟨l, us, rfl, gl, dl⟩ := (r1.dg (isD_tok rfl)).of_lst
        obtain ⟨m, ws, rfl, gm, dm⟩ := (r2.dg (isD_tok rfl)).of_lst
        exact ⟨l, m, us, ws, rfl, SqL.of (a1.sit.sub _ _ gl), SqL.of (a1.sit.sub _ _ gm), p1 _ G1 H1 .refl a1.sit (it_zip gl dl gm dm)⟩
  · exact p1.elim
def enumD : Nat → List PD → List PD
  | _, [] => []
  | n, x :: xs => .tuple [.int n, x] :: enumD (n + 1) xs
theorem enumD_len : ∀ (n : Nat) (xs : List PD), (enumD n xs).length = xs.length
  | _, [] => rfl
  | n, x :: xs => by simp [enumD, enumD_len (n + 1) xs]
theorem enumD_get : ∀ (n : Nat) (xs : List PD) (i : Nat) (d : PD), (enumD n xs)[i]? = some d → ∃ x, xs[i]? = some x ∧ d = .tuple [.int ((n + i : Nat) : Int), x]
  | _, [], _, _, h => by simp [enumD] at h
  | n, x :: xs, 0, d, h => by simp [enumD] at h; exact ⟨x, rfl, h.symm⟩
  | n, x :: xs, i + 1, d, h => by
    simp only [enumD, List.getElem?_cons_succ] at h
    obtain ⟨a, h1, h3⟩ := enumD_get (n + 1) xs i d h
    exact ⟨a, by simpa using h1, by rw [h3]; congr 3; omega⟩
theorem it_enum {K : PySem.W.Frag} {G : Hp} {a : Addr} {xs : List V} {ds : List PD} (ga : G a = some (.lst xs)) (da : DgAll G xs ds) : ItOk G (Ite K a) (enumD 0 ds) := fun i G1 H1 s1 s2 => by
  have h1 : H1 a = some (.lst xs) := s2 _ _ (s1 _ _ ga)
  have hl := enumD_len 0 ds
  refine ⟨fun h => ?_, fun h => ⟨xs, SqL.of h1, by rw [da.len]; omega⟩, fun x H2 d e hy => ?_⟩
  · obtain ⟨v, e1, _⟩ := da.get (List.getElem?_eq_getElem (show i < ds.length by omega))
    exact ⟨xs, v, SqL.of h1, e1⟩
  · obtain ⟨T, v, rfl, nT, rfl, q1⟩ := hy
    obtain ⟨x, e1, rfl⟩ := enumD_get 0 ds i d e
    obtain ⟨v', f1, r1⟩ := da.get e1
    have z1 := q1 xs (SqL.of h1)
    rw [f1, Option.some.injEq] at z1
    subst z1
    have g := Gr.alloc (fp := fun _ => False) (o := .tup [.int (i : Nat), v']) s2 nT
    refine ⟨upd G1 T (.tup [.int (i : Nat), v']), g, subA s2 nT, .tup upd_same (.cons ?_ (.cons ((r1.mono s1).mono g.g) .nil))⟩
    rw [Nat.zero_add]
    exact .int _
def iEn {d : Type} (f : Env → d → R (PD × d)) : Env → d → R (List PD × d) := fun ρ s => bnd (f ρ s) fun x s1 => match x with
  | .list xs => .ok (enumD 0 xs, s1)
  | _ => .bad
theorem di_enum {elts : List Expr} {kk : Nat} {tpos : Pos} {e : Expr} {f : Mx B PD} {p pos : Pos} (hm : X.mg "enumerate" = none) (he : DE X B O e f) (hg : Gl X "enumerate" := by rfl) (hs : starEach [e] X.env = [(false, eval e X.env)] := by rfl) :
    DI X B O (.Tuple elts kk tpos) (.Call (.Name "enumerate" p) [e] [] pos) (iEn f) := PI.imp (pi_enum hg hm (pa_cons he pa_nil hs) hs) fun σ H R h => by
  obtain ⟨G, ρ, s, a, p⟩ := h
  refine rdE.thenI a p fun v G1 H1 d s1 a1 g1 rv p1 => ?_
  cases d with
  | list ds =>
    obtain ⟨l, vs, rfl, gl, dl⟩ := (rv.dg (isD_tok rfl)).of_lst
    exact ⟨l, vs, rfl, SqL.of (a1.sit.sub _ _ gl), p1 _ G1 H1 .refl a1.sit (it_enum gl dl)⟩
  | _ => exact p1.elim
/-- the signs of a text -/
def iSt {d : Type} (f : Env → d → R (PD × d)) : Env → d → R (List PD × d) := fun ρ s => bnd (f ρ s) fun x s1 => match x with
  | .str z => .ok (z.cps.toList.map fun c => .str ⟨#[c]⟩, s1)
  | _ => .bad
theorem it_str {G : Hp} {z : Str} : ItOk G (Its z) (z.cps.toList.map fun c => PyData.str ⟨#[c]⟩) := fun i G1 H1 s1 s2 => by
  have hl : (z.cps.toList.map fun c => PyData.str ⟨#[c]⟩).length = z.cps.size := by simp
  rw [hl]
  refine ⟨fun h => h, fun h => h, fun x H2 d e hy => ?_⟩
  obtain ⟨rfl, c, e1, rfl⟩ := hy
  rw [List.getElem?_map, Array.getElem?_toList, e1, Option.map_some, Option.some.injEq] at e
  subst e
  exact ⟨G1, .refl, s2, .str _⟩
theorem di_str {e : Expr} {f : Mx B PD} (he : DE X B O e f) : DI X B O tg e (iSt f) := PI.imp (pi_str he) fun σ H R h => by
  obtain ⟨G, ρ, s, a, p⟩ := h
  refine rdE.thenI a p fun v G1 H1 d s1 a1 g1 rv p1 => ?_
  cases d with
  | str z => exact ⟨z, (rv.dg (isD_tok rfl)).of_str, p1 _ G1 H1 .refl a1.sit it_str⟩
  | _ => exact p1.elim

/-! ### comprehensions -/
def wipeD (ρ : Env) : List Nat → Env
  | [] => ρ
  | v :: vs => (wipeD ρ vs).set v none
theorem wipeD_get {ρ : Env} {i : Nat} {d : PD} : ∀ {vs : List Nat}, (wipeD ρ vs)[i]? = some (some d) → ρ[i]? = some (some d) ∧ i ∉ vs
  | [], h => ⟨h, by simp⟩
  | v :: vs, h => by
    unfold wipeD at h
    by_cases z : v = i
    · subst z
      by_cases hl : v < (wipeD ρ vs).length
      · rw [List.getElem?_set_self hl] at h; cases h
      · rw [List.getElem?_eq_none (by rw [List.length_set]; omega)] at h; cases h
    · rw [List.getElem?_set_ne z] at h
      obtain ⟨h1, h2⟩ := wipeD_get h
      exact ⟨h1, by simp [h2, Ne.symm z]⟩
theorem wipeD_len (ρ : Env) : ∀ vs : List Nat, (wipeD ρ vs).length = ρ.length
  | [] => rfl
  | v :: vs => by unfold wipeD; rw [List.length_set, wipeD_len ρ vs]
theorem RS.wipe {W : Wd} {G H H0 : Hp} {σ : St} {ρ : Env} (r : RS W G H H0 O σ ρ) (vs : List Nat) : RS W G H H0 O (wipe σ vs) (wipeD ρ vs) := by
  have out : ∀ {i : Nat}, i ∉ vs → (L2.wipe σ vs)[i]? = σ[i]? := fun h => wipe_out h
  refine ⟨by rw [wipe_length, wipeD_len]; exact r.len, fun i d e n => ?_, fun i d e m => ?_, fun i j p d e m1 m2 h1 h2 h3 h4 => ?_⟩
  · obtain ⟨h1, h2⟩ := wipeD_get e
    rw [out h2]
    exact r.plain i d h1 n
  · obtain ⟨h1, h2⟩ := wipeD_get e
    rw [out h2]
    exact r.own i d h1 m
  · obtain ⟨q1, q2⟩ := wipeD_get h1
    obtain ⟨q3, q4⟩ := wipeD_get h2
    rw [out q2] at h3
    rw [out q4] at h4
    exact r.apart i j p d e m1 m2 q1 q3 h3 h4
def noX {a : Type} (r : R a) : R a := match r with
  | .ok x => .ok x
  | _ => .bad
@[simp] theorem noX_ok {a : Type} (x : a) : noX (.ok x) = .ok x := rfl
def compGo {d : Type} (b : Bd) (own : List Nat) (t : Env → d → R (Bool × d)) (f : Env → d → R (PD × d)) (ρ : Env) : List PD → d → R (List PD × d)
  | [], s => .ok ([], s)
  | x :: xs, s => match b x (wipeD ρ own) with
    | none => .bad
    | some ρ1 => bnd (noX (t ρ1 s)) fun c s1 => if c = true then bnd (noX (f ρ1 s1)) fun y s2 => if isD y then bnd (compGo b own t f ρ xs s2) fun ys s3 => .ok (y :: ys, s3) else .bad
      else compGo b own t f ρ xs s1
def cComp {d : Type} (it : Env → d → R (List PD × d)) (b : Bd) (own : List Nat) (t : Env → d → R (Bool × d)) (f : Env → d → R (PD × d)) : Env → d → R (PD × d) := fun ρ s =>
  bnd (it ρ s) fun xs s1 => if xs.length ≤ 100000 then bnd (compGo b own t f ρ xs s1) fun ys s2 => .ok (.list ys, s2) else .bad
def tYesD {d : Type} : Env → d → R (Bool × d) := fun _ s => .ok (true, s)
abbrev Bs.blk (B : Bs) : Bs := { B with E := E0 }
abbrev DTs (X : Cx) (B : Bs) (O : List Nat) (es : List Expr) (f : Mx B Bool) : Prop := PTs X es (rdT B O f)
theorem dts_nil : DTs X B O [] tYesD := ⟨fun pins s σ H Q I h => by
  obtain ⟨G, ρ, s, a, p⟩ := h
  exact pts_nil.run pins _ σ H Q I (p.done a.sit)⟩
theorem dts_one {e : Expr} {f : Mx B Bool} (h : DT X B O e f) : DTs X B O [e] f := pts_one h
theorem compGo_len {d : Type} {b : Bd} {own : List Nat} {t : Env → d → R (Bool × d)} {f : Env → d → R (PD × d)} {ρ : Env} : ∀ (xs : List PD) (s : d) (ys : List PD) (s' : d), compGo b own t f ρ xs s = .ok (ys, s') → ys.length ≤ xs.length
  | [], s, ys, s', h => by cases h; simp
  | x :: xs, s, ys, s', h => by
    unfold compGo at h
    cases eb : b x (wipeD ρ own) with
    | none => rw [eb] at h; cases h
    | some ρ1 =>
      rw [eb] at h
      dsimp only at h
      cases et : t ρ1 s with
      | exc c => rw [et] at h; cases h
      | bad => rw [et] at h; cases h
      | ok y =>
        obtain ⟨c, s1⟩ := y
        rw [et, noX_ok, bnd_ok] at h
        cases c with
        | false =>
          have := compGo_len xs s1 ys s' h
          rw [List.length_cons]; omega
        | true =>
          rw [if_pos rfl] at h
          cases ef : f ρ1 s1 with
          | exc c => rw [ef] at h; cases h
          | bad => rw [ef] at h; cases h
          | ok z =>
            obtain ⟨w, s2⟩ := z
            rw [ef, noX_ok, bnd_ok] at h
            split at h
            · cases eg : compGo b own t f ρ xs s2 with
              | exc c => rw [eg] at h; cases h
              | bad => rw [eg] at h; cases h
              | ok z =>
                obtain ⟨zs, s3⟩ := z
                rw [eg] at h
                cases h
                have := compGo_len xs s2 zs _ eg
                simp only [List.length_cons]; omega
            · cases h
/-- an object of our own is written -/
theorem At.write {σ : St} {H G : Hp} {ρ : Env} {s : B.W.d} {D : Addr} {o u : HO} (a : At B O σ H G ρ s) (gD : G D = none) (hD : H D = some u) (h0 : B.H0 D = none) (fD : ¬ B.W.fp D) (hne : ∀ i d, i ∈ O → ρ[i]? = some (some d) → σ[i]? ≠ some (some (.ref D))) : At B O σ (upd H D o) G ρ s := by
  refine ⟨⟨fun x w h => ?_, a.sit.fpG, fun x f z => ?_, B.W.keep a.sit.rep (fun _ _ e => e) fun x w f h => ?_⟩, ⟨a.gr.g, fun x w n h => ?_, fun x h => ?_, a.gr.new⟩, a.rs.len, a.rs.plain, fun i d e m => ?_, a.rs.apart⟩
  · have z : x ≠ D := ne_of_none h gD
    rw [upd_ne z]; exact a.sit.sub x w h
  · have q : x ≠ D := fun q => fD (by rw [← q]; exact f)
    rw [upd_ne q] at z; exact a.sit.fpH x f z
  · have q : x ≠ D := fun q => fD (by rw [← q]; exact f)
    rw [upd_ne q]; exact h
  · have z : x ≠ D := ne_of_none h h0
    rw [upd_ne z]; exact a.gr.h x w n h
  · by_cases z : x = D
    · subst z; exact h0
    · rw [upd_ne z] at h; exact a.gr.dom x h
  · obtain ⟨p, vs, ds, h1, h2, h3, h4, h5, h6, h7⟩ := a.rs.own i d e m
    have z : p ≠ D := fun z => hne i d m e (by rw [← z]; exact h1)
    exact ⟨p, vs, ds, h1, h2, by rw [upd_ne z]; exact h3, h4, h5, h6, h7⟩
theorem Gr.write {fp : Addr → Prop} {G H G1 H1 : Hp} {D : Addr} {o : HO} (g : Gr fp G H G1 H1) (nD : H D = none) : Gr fp G H G1 (upd H1 D o) :=
  ⟨g.g, fun x w n h => by rw [upd_ne (ne_of_none h nD)]; exact g.h x w n h, fun x h => by
    by_cases z : x = D
    · subst z; exact nD
    · rw [upd_ne z] at h; exact g.dom x h, g.new⟩
theorem bnd_assoc {a b c d : Type} (r : DL.R (a × d)) (k : a → d → DL.R (b × d)) (l : b → d → DL.R (c × d)) : bnd (bnd r k) l = bnd r fun x s => bnd (k x s) l := by
  cases r <;> rfl
theorem rd_lc {fi : Mx B (List PD)} {b : Bd} {sl own : List Nat} {ft : Mx B Bool} {fe : Mx B PD} {σ : St} {H : Hp} {Q : VK} (hsl : ∀ i ∈ sl, i ∈ own) (h : rdE B O (cComp fi b own ft fe) σ H Q) :
    tLc (rdI B O fi) (gRd B.blk O b sl) (rdT B.blk O ft) (rdE B.blk O fe) own σ H Q := by
  obtain ⟨G, ρ, s, a, p⟩ := h
  refine ⟨G, ρ, s, a, ?_⟩
  unfold cComp at p
  cases e : fi ρ s with
  | exc c => rw [e] at p; exact p
  | bad => rw [e] at p; exact p
  | ok x =>
    obtain ⟨items, s1⟩ := x
    rw [e, bnd_ok] at p
    intro J G1 H1 g1 S1 ok D nD
    have a1 := a.step g1 S1
    by_cases hlen : items.length ≤ 100000
    · rw [if_pos hlen] at p
      have p := PostE.mono g1 p
      -- the new list is known to the heap alone
      have aD : At B O σ (upd H1 D (.lst [])) G1 ρ s1 := a1.step (Gr.allocH nD) (a1.sit.allocH nD)
      have gD : G1 D = none := by
        cases q : G1 D with
        | none => rfl
        | some o => rw [a1.sit.sub _ _ q] at nD; cases nD
      have fD : ¬ B.W.fp D := fun z => a1.sit.fpH D z nD
      have h0D : B.H0 D = none := a1.gr.dom D nD
      have hneD : ∀ i d, i ∈ O → ρ[i]? = some (some d) → σ[i]? ≠ some (some (.ref D)) := fun i d m e z => by
        obtain ⟨q, vs, ds, h1, h2, h3, _⟩ := a1.rs.own i d e m
        rw [z] at h1; cases h1
        rw [nD] at h3; cases h3
      let Wv : Nat → Nat → Hp → Prop := fun i m H => i + m = items.length ∧ ∃ G s acc ds, At B O σ H G ρ s ∧ Gr B.W.fp G1 H1 G H ∧ H D = some (.lst acc) ∧ G D = none ∧ DgAll G acc ds ∧ acc.length ≤ i ∧
        PostE B G1 H1 (bnd (compGo b own ft fe ρ (items.drop i) s) fun ys s2 => .ok (.list (ds ++ ys), s2)) Q
      refine ⟨Wv, ⟨items.length, by omega, G1, s1, [], [], aD, Gr.allocH nD, upd_same, gD, .nil, Nat.le_refl _, p⟩, fun i m H hW => ?_⟩
      obtain ⟨em, G, s, acc, ds, a, g, hD, gD, da, hi, p⟩ := hW
      by_cases hl : i < items.length
      · obtain ⟨go, _, yl⟩ := ok i G H g.g a.sit.sub
        refine .inr ⟨go hl, fun H' => Wv (i + 1) (m - 1) H', fun H' hN => ⟨m - 1, by omega, hN⟩, fun x H' hy => ?_⟩
        obtain ⟨G2, g2, sb2, dx⟩ := yl x H' items[i] (List.getElem?_eq_getElem hl) hy
        have g2' := g2.weak (fp' := B.W.fp) fun _ z => z.elim
        have a2 := a.step g2' (a.sit.pure g2 sb2)
        rw [List.drop_eq_getElem_cons hl] at p
        unfold compGo at p
        cases eb : b items[i] (wipeD ρ own) with
        | none => rw [eb] at p; exact p.elim
        | some ρ1 =>
          rw [eb] at p
          dsimp only at p
          refine ⟨G2, wipeD ρ own, items[i], ρ1, sb2, a2.rs.wipe own, .inl dx, eb, fun σ' rs' wp => ⟨?_, ?_⟩⟩
          · rw [wp own hsl]
            -- wiping twice
            clear p wp rs'
            have tw : ∀ (vs : List Nat) (us : List Nat), (∀ v ∈ vs, v ∈ us) → wipe (wipe σ us) vs = wipe σ us := by
              intro vs us
              induction vs with
              | nil => intro _; rfl
              | cons v vs ih =>
                intro hv
                show (wipe (wipe σ us) vs).set v none = wipe σ us
                rw [ih fun w hw => hv w (List.mem_cons_of_mem _ hw)]
                have hn : ∀ y, (wipe σ us)[v]? ≠ some (some y) := fun y q => (wipe_some q).2 (hv v (by simp))
                apply List.ext_getElem?
                intro k
                by_cases hk : v = k
                · subst hk
                  by_cases hlt : v < (wipe σ us).length
                  · rw [List.getElem?_set_self hlt]
                    cases q : (wipe σ us)[v]? with
                    | none => rw [List.getElem?_eq_none_iff] at q; omega
                    | some y =>
                      cases y with
                      | none => rfl
                      | some y => exact absurd q (hn y)
                  · rw [List.getElem?_eq_none (by rw [List.length_set]; omega), List.getElem?_eq_none (by omega)]
                · rw [List.getElem?_set_ne hk]
            exact tw own own fun _ h => h
          · -- the test
            have a3 : At B.blk O σ' H' G2 ρ1 s := ⟨a2.sit, a2.gr, rs'⟩
            have gt2 := g.trans g2'
            refine ⟨G2, ρ1, s, a3, ?_⟩
            cases et : ft ρ1 s with
            | bad => rw [et] at p; exact p.elim
            | exc c => rw [et] at p; exact p.elim
            | ok y =>
              obtain ⟨c, s2⟩ := y
              rw [et, noX_ok, bnd_ok] at p
              intro G3 H3 g3 S3
              have a4 : At B O σ H3 G3 ρ s2 := a2.step g3 S3
              have gt3 := gt2.trans g3
              have hD2 : H' D = some (.lst acc) := g2'.h D _ fD hD
              have hD3 : H3 D = some (.lst acc) := g3.h D _ fD hD2
              have nG : ∀ {G' H' : Hp}, Gr B.W.fp G H G' H' → G' D = none := fun {G' H'} gg => by
                cases q : G' D with
                | none => rfl
                | some o =>
                  rcases gg.new D o q with z | z
                  · rw [gD] at z; cases z
                  · rw [hD] at z; cases z
              have gD3 : G3 D = none := nG (g2'.trans g3)
              cases c with
              | false => exact ⟨by omega, G3, s2, acc, ds, a4, gt3, hD3, gD3, da.mono (g2'.trans g3).g, by omega, p⟩
              | true =>
                rw [if_pos rfl] at p
                have a5 : At B.blk O σ' H3 G3 ρ1 s2 := a3.step g3 S3
                refine ⟨G3, ρ1, s2, a5, ?_⟩
                cases ef : fe ρ1 s2 with
                | bad => rw [ef] at p; exact p.elim
                | exc c => rw [ef] at p; exact p.elim
                | ok z =>
                  obtain ⟨y, s3⟩ := z
                  rw [ef, noX_ok, bnd_ok] at p
                  intro v G4 H4 g4 S4 rv
                  by_cases hy' : isD y = true
                  · rw [if_pos hy'] at p
                    have hD4 : H4 D = some (.lst acc) := g4.h D _ fD hD3
                    have gD4 : G4 D = none := nG ((g2'.trans g3).trans g4)
                    have gt4 := gt3.trans g4
                    refine ⟨acc, hD4, Nat.lt_of_le_of_lt (Nat.le_trans hi (Nat.le_of_lt hl)) (Nat.lt_of_le_of_lt hlen (by decide)), by omega, G4, s3, acc ++ [v], ds ++ [y], ?_, ?_, upd_same, gD4, (da.mono ((g2'.trans g3).trans g4).g).app (.cons (rv.dg (isD_tok hy')) .nil), by rw [List.length_append]; simp; omega, ?_⟩
                    · exact (a4.step g4 S4).write gD4 hD4 h0D fD hneD
                    · exact gt4.write nD
                    · rw [bnd_assoc] at p
                      simp only [bnd_ok] at p
                      simp only [List.append_assoc, List.singleton_append]
                      exact p
                  · rw [if_neg hy'] at p; exact p.elim
      · have hge : items.length ≤ i := by omega
        obtain ⟨_, st, _⟩ := ok i G H g.g a.sit.sub
        refine .inl ⟨st hge, ?_⟩
        rw [List.drop_eq_nil_of_le hge] at p
        have sg : Sub G (upd G D (.lst acc)) := sub_upd gD
        refine p (.ref D) (upd G D (.lst acc)) H ⟨fun x o h => sg x o (g.g x o h), g.h, g.dom, fun x o h => ?_⟩ ⟨fun x o h => ?_, fun x f => ?_, a.sit.fpH, B.W.keep a.sit.rep sg fun _ _ _ e => e⟩ (.inl (.lst upd_same ?_))
        · by_cases z : x = D
          · subst z; exact .inr nD
          · rw [upd_ne z] at h; exact g.new x o h
        · by_cases z : x = D
          · subst z; rw [upd_same] at h; cases h; exact hD
          · rw [upd_ne z] at h; exact a.sit.sub x o h
        · have z : x ≠ D := fun z => fD (by rw [← z]; exact f)
          rw [upd_ne z]; exact a.sit.fpG x f
        · rw [List.append_nil]; exact da.mono sg
    · rw [if_neg hlen] at p; exact p.elim
theorem de_lc {elt iter : Expr} {ifs : List Expr} {scope : Scope} (own : List (Str × Nat)) {pos : Pos} {fi : Mx B (List PD)} {b : Bd} {sl : List Nat} {ft : Mx B Bool} {fe : Mx B PD} (hN : X.N.Nodup) (hi : DI X B O tg iter fi) (ok : blkC X.N X.env.scope scope own = true)
    (hg : ∀ (s : Shared) (H : Hp) (C : Addr) (cl : List (Str × Addr)) (fp : List Addr), DG (X.blk s H scope (compEnvC scope cl C X.env) fp) B.blk O tg b sl)
    (ht : ∀ (s : Shared) (H : Hp) (C : Addr) (cl : List (Str × Addr)) (fp : List Addr), DTs (X.blk s H scope (compEnvC scope cl C X.env) fp) B.blk O ifs ft)
    (he : ∀ (s : Shared) (H : Hp) (C : Addr) (cl : List (Str × Addr)) (fp : List Addr), DE (X.blk s H scope (compEnvC scope cl C X.env) fp) B.blk O elt fe)
    (hc : X.calm = true := by rfl) (hsl : ∀ i ∈ sl, i ∈ own.map (·.2) := by decide) (hs : ∀ x, foldedSetIterable iter X.env x = pure x := by intro _; rfl) : DE X B O (.ListComp elt [⟨tg, iter, ifs, 0⟩] scope pos) (cComp fi b (own.map (·.2)) ft fe) :=
  PE.imp (pe_lc hc hN hi (blkOk_by ok) hg ht he hs) fun σ H Q h => rd_lc hsl h
theorem ds_setLc (i : Nat) {y : Str} {py spos : Pos} {elt iter : Expr} {ifs : List Expr} {scope : Scope} (own : List (Str × Nat)) {pos : Pos} {fi : Mx B (List PD)} {b : Bd} {sl : List Nat} {ft : Mx B Bool} {fe : Mx B PD} (hN : X.N.Nodup)
    (hsw : swapsWith (.ListComp elt [⟨tg, iter, ifs, 0⟩] scope pos) (some (.Name y py)) spos.line X.env = pure true) (hi : DI X B O tg iter fi) (ok : blkC X.N X.env.scope scope own = true)
    (hg : ∀ (s : Shared) (H : Hp) (C : Addr) (cl : List (Str × Addr)) (fp : List Addr), DG (X.blk s H scope (compEnvC scope cl C X.env) fp) B.blk O tg b sl)
    (ht : ∀ (s : Shared) (H : Hp) (C : Addr) (cl : List (Str × Addr)) (fp : List Addr), DTs (X.blk s H scope (compEnvC scope cl C X.env) fp) B.blk O ifs ft)
    (he : ∀ (s : Shared) (H : Hp) (C : Addr) (cl : List (Str × Addr)) (fp : List Addr), DE (X.blk s H scope (compEnvC scope cl C X.env) fp) B.blk O elt fe)
    (hy : X.N[i]? = some y := by rfl) (hyl : X.env.scope.names.lookup y = some .local := by rfl) (hO : i ∉ O := by decide)
    (hc : X.calm = true := by rfl) (hsl : ∀ i ∈ sl, i ∈ own.map (·.2) := by decide) (hs : ∀ x, foldedSetIterable iter X.env x = pure x := by intro _; rfl) : DS X B O O (.Assign [.Name y py] (.ListComp elt [⟨tg, iter, ifs, 0⟩] scope pos) spos) (sSet i (cComp fi b (own.map (·.2)) ft fe)) :=
  PS.imp (ps_setLc hc hN hy hyl hsw hi (blkOk_by ok) hg ht he hs) fun D σ H h => by
    obtain ⟨G, ρ, s, a, p⟩ := h
    refine rd_lc hsl ?_
    exact rdE.thenS a p fun v G1 H1 d s1 a1 g1 rv p1 => p1 _ G1 H1 ⟨a1.sit, a1.gr, a1.rs.set rv hO⟩
end
end DL

/-! DL8: defs of our own, called; owned lists -/
namespace DL
open PySem PySem.Spec PyProof.Rows L2
/-! ### pure defs -/
def PostP (cls : Nat → Addr) (tk : Nat → V) (G H : Hp) (r : R PD) (Q : VK) (E : XK) : Prop :=
  match r with
  | .ok d => ∀ v G' H', Gr (fun _ => False) G H G' H' → Sub G' H' → Rp tk G' v d → Q v H'
  | .exc c => ∀ G' H', Gr (fun _ => False) G H G' H' → E (.ref (cls c)) none H'
  | .bad => False
def spP (cls : Nat → Addr) (n : Nat) (m : List PD → R PD) : Sp := fun vs H Q E => ∃ tk G ds, Sub G H ∧ RpAll tk G vs ds ∧ ds.length = n ∧ PostP cls tk G H (m ds) Q E
/-- a pure def by its name -/
structure FnP (P : Program) (w : World) (K : PySem.W.Frag) (mg : Str → Option Value) (base : Heap) (cls : Nat → Addr) (k : Nat) (x : Str) (n : Nat) (m : List PD → R PD) : Prop where
  ex : ∃ f fd ps, FnOk P w K mg base (L2.CX P w) k f fd ps (spP cls n m) ∧ mg x = some (.ref f) ∧ PySem.W.keepIn K (.ref f) = true ∧ Binds K fd ps []
theorem FnP.mono {P : Program} {w : World} {K : PySem.W.Frag} {mg : Str → Option Value} {base : Heap} {cls : Nat → Addr} {k j : Nat} {x : Str} {n : Nat} {m : List PD → R PD} (F : FnP P w K mg base cls k x n m) (h : k ≤ j) : FnP P w K mg base cls j x n m := by
  obtain ⟨f, fd, ps, h1, h2⟩ := F.ex
  exact ⟨f, fd, ps, h1.mono h, h2⟩
/-- another function with the same values -/
theorem FnP.congr {P : Program} {w : World} {K : PySem.W.Frag} {mg : Str → Option Value} {base : Heap} {cls : Nat → Addr} {k : Nat} {x : Str} {n : Nat} {m m' : List PD → R PD} (F : FnP P w K mg base cls k x n m) (h : ∀ ds, ds.length = n → m' ds = .bad ∨ m ds = m' ds) : FnP P w K mg base cls k x n m' := by
  obtain ⟨f, fd, ps, h1, h2⟩ := F.ex
  refine ⟨f, fd, ps, h1.imp fun vs H Q E q => ?_, h2⟩
  obtain ⟨tk, G, ds, a, b, c, p⟩ := q
  refine ⟨tk, G, ds, a, b, c, ?_⟩
  rcases h ds c with z | z
  · rw [z] at p; exact p.elim
  · rw [z]; exact p
def cCallF {d : Type} (n : Nat) (m : List PD → R PD) (a : Env → d → R (List PD × d)) : Env → d → R (PD × d) := fun ρ s => bnd (a ρ s) fun ds s1 => if ds.length = n then lft (m ds) s1 else .bad
section
variable {X : Cx} {B : Bs} {O O' : List Nat}
theorem PostP.of {G H : Hp} {r : R PD} {Q : VK} {s : B.W.d} (S : Sit B.W G H s) (p : PostE B G H (lft r s) Q) : PostP B.W.cls B.W.tk G H r Q B.E := by
  cases r with
  | ok d => exact fun v G' H' g sb rp => p v G' H' (g.weak fun _ z => z.elim) (S.pure g sb) rp
  | exc c => exact fun G' H' g => p G' H' (g.weak fun _ z => z.elim)
  | bad => exact p
theorem de_call {k : Nat} {x : Str} {n : Nat} {m : List PD → R PD} {e : Expr} {es : List Expr} {fa : Mx B (List PD)} {p pos : Pos} (F : FnP X.prog X.w X.K X.mg X.base B.W.cls k x n m) (hr : Room k X.A) (hx : Passes (L2.CX X.prog X.w) X B.E) (ha : DA X B O (e :: es) fa) (hg : Gl X x := by rfl)
    (hdb : (x == ("__debug__" : Str)) = false := by decide) (he : starEach (e :: es) X.env = (false, eval e X.env) :: starEach es X.env := by rfl) (hpl : (backTo pos (starEach es X.env)).any (·.1) = false := by rfl) : DE X B O (.Call (.Name x p) (e :: es) [] pos) (cCallF n m fa) := by
  obtain ⟨f, fd, ps, hF, hm, hk, hb⟩ := F.ex
  refine PE.imp (pe_call hF hr hg hm hk hb .nil hx ha hdb he hpl) fun σ H Q h => ?_
  obtain ⟨G, ρ, s, a, p⟩ := h
  refine rdA.then a p fun vs G1 H1 ds s1 a1 g1 rv p1 => ?_
  by_cases hl : ds.length = n
  · rw [if_pos hl] at p1
    rw [List.append_nil]
    exact ⟨B.W.tk, G1, ds, a1.sit.sub, rv, hl, PostP.of a1.sit p1⟩
  · rw [if_neg hl] at p1; exact p1.elim
theorem de_call0 {k : Nat} {x : Str} {m : List PD → R PD} {p pos : Pos} (F : FnP X.prog X.w X.K X.mg X.base B.W.cls k x 0 m) (hr : Room k X.A) (hx : Passes (L2.CX X.prog X.w) X B.E) (hg : Gl X x := by rfl)
    (hdb : (x == ("__debug__" : Str)) = false := by decide) : DE X B O (.Call (.Name x p) [] [] pos) (fun _ s => lft (m []) s) := by
  obtain ⟨f, fd, ps, hF, hm, hk, hb⟩ := F.ex
  refine PE.imp (pe_call0 hF hr hg hm hk hb .nil hx hdb) fun σ H Q h => ?_
  obtain ⟨G, ρ, s, a, p⟩ := h
  exact ⟨B.W.tk, G, [], a.sit.sub, .nil, rfl, PostP.of a.sit p⟩
end
/-- the pure world -/
def Wp (cls : Nat → Addr) (tk : Nat → V) : Wd := { d := Unit, fp := fun _ => False, rep := fun _ _ _ => True, tk := tk, cls := cls, keep := fun _ _ _ => trivial }
def startD (N : List Str) (ds : List PD) : Env := ds.map some ++ List.replicate (N.length - ds.length) none
/-- what a body's outcome is for its caller -/
def outP (r : R (Fl × Unit)) : R PD := match r with
  | .ok (.rt d, _) => .ok d
  | .ok (.nx _, _) => .ok .none
  | .ok _ => .bad
  | .exc c => .exc c
  | .bad => .bad
def mBody (n : Nat) (f : Env → Unit → R (Fl × Unit)) : List PD → R PD := fun ds => outP (f (ds.map some ++ List.replicate n none) ())
theorem RpAll.begin_ {W : Wd} {G H H0 : Hp} {vs : List V} {ds : List PD} (N : List Str) (r : RpAll W.tk G vs ds) : RS W G H H0 [] (L2.start N vs) (startD N ds) := by
  have hl := r.len
  refine ⟨by unfold L2.start startD; rw [List.length_append, List.length_append, List.length_map, List.length_map, List.length_replicate, List.length_replicate, hl], fun i d e _ => ?_, fun i d e m => by simp at m, fun i j p d e m => by simp at m⟩
  unfold startD at e
  unfold L2.start
  by_cases hi : i < ds.length
  · rw [List.getElem?_append_left (by rw [List.length_map]; exact hi), List.getElem?_map] at e
    rw [List.getElem?_append_left (by rw [List.length_map, hl]; exact hi), List.getElem?_map]
    cases q : ds[i]? with
    | none => rw [q] at e; cases e
    | some d' =>
      rw [q] at e
      cases e
      obtain ⟨v, h1, h2⟩ := r.get q
      exact ⟨v, by rw [h1]; rfl, h2⟩
  · rw [List.getElem?_append_right (by rw [List.length_map]; omega), List.getElem?_replicate] at e
    split at e <;> cases e
section
variable {P : Program} {w : World} {K : PySem.W.Frag} {mg : Str → Option Value} {base : Heap} {x qual : Str} {params : Arguments} {body : List Stmt} {scope : Scope} {f : Addr} {fd : FuncData} {cls : Nat → Addr}
/-- A PURE DEF, by its body -/
theorem fn_pure {N ps : List Str} {k n : Nat} {fb : Env → Unit → R (Fl × Unit)} (F : FunD K x qual params body scope [] [] f fd) (S : FnScope N ps scope) (hm : mg x = some (.ref f)) (hn : ps.length = n) (hb : Binds K fd ps [])
    (hbody : ∀ (cdv : Value) (A : Around) (outer : List PySem.Env) (s : Shared) (H : Hp) (E : XK) (tk : Nat → V) (G : Hp), Room k (A.deeper (envOfC qual scope s.heap.objs.size f cdv)) →
      DSs (cxOf (L2.CX P w) P w K mg base N qual scope f cdv A outer s H E) ⟨Wp cls tk, G, H, E⟩ [] [] body fb) : FnP P w K mg base cls (k + 1) x n (mBody (N.length - n) fb) := by
  refine ⟨f, fd, ps, F.ok S (fun vs H Q E h => ?_) (fun cdv A outer s H vs Q E hr h => ?_), hm, F.kp, hb⟩
  · obtain ⟨tk, G, ds, _, r, hl, _⟩ := h
    rw [r.len, hl, hn]
  · obtain ⟨tk, G, ds, sb, r, hl, p⟩ := h
    refine ⟨_, hbody cdv A outer s H E tk G hr, G, startD N ds, (), ⟨⟨sb, fun _ z => z.elim, fun _ z => z.elim, trivial⟩, .refl, r.begin_ N⟩, ?_⟩
    unfold mBody at p
    have e0 : startD N ds = ds.map some ++ List.replicate (N.length - n) none := by unfold startD; rw [hl]
    rw [e0]
    revert p
    generalize fb (ds.map some ++ List.replicate (N.length - n) none) () = r'
    intro p
    cases r' with
    | bad => exact p
    | exc c => exact fun G' H' g => p G' H' g
    | ok y =>
      obtain ⟨fl, u⟩ := y
      cases fl with
      | nx ρ => exact fun σ' G' H' a => p .non G' H' a.gr a.sit.sub (.inl .non)
      | rt d => exact fun v G' H' g st rv => p v G' H' g st.sub rv
      | bk ρ => exact p.elim
      | ct ρ => exact p.elim
end

/-! ### owned lists -/
section
variable {X : Cx} {B : Bs} {O O' : List Nat}
/-- a fresh list that is ours: not in the ghost heap -/
def PostF (B : Bs) (G H : Hp) (r : R (List PD × B.W.d)) (Q : VK) : Prop :=
  match r with
  | .ok (ds, s') => ∀ p vs G' H', Gr B.W.fp G H G' H' → Sit B.W G' H' s' → H p = none → G' p = none → H' p = some (.lst vs) → DgAll G' vs ds → Q (.ref p) H'
  | .exc c => ∀ G' H', Gr B.W.fp G H G' H' → B.E (.ref (B.W.cls c)) none H'
  | .bad => False
theorem PostF.mono {G H G1 H1 : Hp} {r : R (List PD × B.W.d)} {Q : VK} (g : Gr B.W.fp G H G1 H1) (h : PostF B G H r Q) : PostF B G1 H1 r Q := by
  cases r with
  | ok x => exact fun p vs G' H' g' S' n1 n2 e d => h p vs G' H' (g.trans g') S' (g.dom p n1) n2 e d
  | exc c => exact fun G' H' g' => h G' H' (g.trans g')
  | bad => exact h
def rdF (B : Bs) (O : List Nat) (f : Mx B (List PD)) : TE := fun σ H Q => ∃ G ρ s, At B O σ H G ρ s ∧ PostF B G H (f ρ s) Q
abbrev DF (X : Cx) (B : Bs) (O : List Nat) (e : Expr) (f : Mx B (List PD)) : Prop := PE X e (rdF B O f)
def fLst {d : Type} (r : Env → d → R (List PD × d)) : Env → d → R (List PD × d) := fun ρ s => bnd (r ρ s) fun xs s1 => if allD xs && decide (xs.length ≤ sizeLine) then .ok (xs, s1) else .bad
theorem df_lst {es : List Expr} {f : Mx B (List PD)} {pos : Pos} (h : DA X B O es f) : DF X B O (.List es pos) (fLst f) :=
  PE.imp (pe_lst h) fun σ H Q h => by
    obtain ⟨G, ρ, s, a, p⟩ := h
    refine rdA.fst a (fun G H r => PostF B G H r Q) (fun g p => p.mono g) (fun p => p) (fun p => p) p fun xs G1 H1 ds s1 a1 g1 rs p1 => ?_
    by_cases hd : (allD ds && decide (ds.length ≤ sizeLine)) = true
    · rw [if_pos hd] at p1
      rw [Bool.and_eq_true, decide_eq_true_eq] at hd
      refine ⟨by rw [rs.len]; exact hd.2, fun q hq => ?_⟩
      refine p1 q xs G1 _ (Gr.allocH hq) (a1.sit.allocH hq) hq ?_ upd_same (rs.dg hd.1)
      cases z : G1 q with
      | none => rfl
      | some o => rw [a1.sit.sub _ _ z] at hq; cases hq
    · rw [if_neg hd] at p1; exact p1.elim
/-- x = a fresh list, owned from here on -/
def sSetF {d : Type} (i : Nat) (f : Env → d → R (List PD × d)) : Env → d → R (Fl × d) := fun ρ s => bnd (f ρ s) fun xs s1 => .ok (.nx (ρ.set i (some (.list xs))), s1)
theorem RS.setO {W : Wd} {G H H0 : Hp} {σ : St} {ρ : Env} {i : Nat} {p : Addr} {vs : List V} {ds : List PD} (r : RS W G H H0 O σ ρ) (hi : ∀ j, j ∈ O' → j = i ∨ j ∈ O) (hi2 : ∀ j, j ∈ O → j = i ∨ j ∈ O') (hi3 : i ∈ O')
    (h3 : H p = some (.lst vs)) (h4 : DgAll G vs ds) (h5 : G p = none) (h6 : H0 p = none) (h7 : ¬ W.fp p) (hne : ∀ j d, j ∈ O → j ≠ i → ρ[j]? = some (some d) → σ[j]? ≠ some (some (.ref p))) : RS W G H H0 O' (σ.set i (some (.ref p))) (ρ.set i (some (.list ds))) := by
  refine ⟨by rw [List.length_set, List.length_set]; exact r.len, fun j e h n => ?_, fun j e h m => ?_, fun j k q e f m1 m2 h1 h2 h3 h4 => ?_⟩
  · have z : i ≠ j := fun z => n (by rw [← z]; exact hi3)
    rw [List.getElem?_set_ne z] at h ⊢
    refine r.plain j e h fun w => ?_
    rcases hi2 j w with q | q
    · exact z q.symm
    · exact n q
  · by_cases z : i = j
    · subst z
      by_cases hl : i < ρ.length
      · rw [List.getElem?_set_self hl] at h
        cases h
        exact ⟨p, vs, ds, List.getElem?_set_self (by rw [r.len]; exact hl), rfl, h3, h4, h5, h6, h7⟩
      · rw [List.getElem?_eq_none (by rw [List.length_set]; omega)] at h; cases h
    · rw [List.getElem?_set_ne z] at h
      obtain ⟨q, ws, es, q1, q2⟩ := r.own j e h (by
        rcases hi j m with w | w
        · exact absurd w.symm z
        · exact w)
      exact ⟨q, ws, es, by rw [List.getElem?_set_ne z]; exact q1, q2⟩
  · have inO : ∀ {j}, j ∈ O' → i ≠ j → j ∈ O := fun {j} m z => by
      rcases hi j m with w | w
      · exact absurd w.symm z
      · exact w
    by_cases z1 : i = j
    · by_cases z2 : i = k
      · rw [← z1, ← z2]
      · subst z1
        exfalso
        have hl : i < σ.length := by
          cases hq : decide (i < σ.length) with
          | true => exact of_decide_eq_true hq
          | false =>
            have := of_decide_eq_false hq
            rw [List.getElem?_eq_none (by rw [List.length_set]; omega)] at h3; cases h3
        rw [List.getElem?_set_self hl] at h3
        cases h3
        rw [List.getElem?_set_ne z2] at h2 h4
        exact hne k f (inO m2 z2) (Ne.symm z2) h2 h4
    · by_cases z2 : i = k
      · subst z2
        exfalso
        have hl : i < σ.length := by
          cases hq : decide (i < σ.length) with
          | true => exact of_decide_eq_true hq
          | false =>
            have := of_decide_eq_false hq
            rw [List.getElem?_eq_none (by rw [List.length_set]; omega)] at h4; cases h4
        rw [List.getElem?_set_self hl] at h4
        cases h4
        rw [List.getElem?_set_ne z1] at h1 h3
        exact hne j e (inO m1 z1) (Ne.symm z1) h1 h3
      · rw [List.getElem?_set_ne z1] at h1 h3
        rw [List.getElem?_set_ne z2] at h2 h4
        exact r.apart j k q e f (inO m1 z1) (inO m2 z2) h1 h2 h3 h4
theorem ds_setF (i : Nat) {x : Str} {e : Expr} {fe : Mx B (List PD)} {pos pos' : Pos} (hN : X.N.Nodup) (he : DF X B O e fe) (hi1 : ∀ j, j ∈ O' → j = i ∨ j ∈ O := by decide) (hi2 : ∀ j, j ∈ O → j = i ∨ j ∈ O' := by decide) (hi3 : i ∈ O' := by decide) (hi : X.N[i]? = some x := by rfl) (hx : Loc X.env.scope x := by first | exact Or.inl rfl | exact Or.inr rfl)
    (hs : swapsWith e (some (.Name x pos')) pos.line X.env = pure false := by rfl) (hf : X.fn x = true ∨ X.env.scope.names.lookup x = some .local := by first | exact .inl rfl | exact .inr rfl) : DS X B O O' (.Assign [.Name x pos'] e pos) (sSetF i fe) :=
  PS.imp (ps_set hN hi hx he hs hf) fun D σ H h => by
    obtain ⟨G, ρ, s, a, p⟩ := h
    refine ⟨G, ρ, s, a, ?_⟩
    unfold sSetF at p
    cases ef : fe ρ s with
    | bad => rw [ef] at p; exact p
    | exc c => rw [ef] at p; exact fun G' H' g => p G' H' (a.gr.trans g)
    | ok y =>
      obtain ⟨ds, s1⟩ := y
      rw [ef, bnd_ok] at p
      intro q vs G' H' g S n1 n2 hq dq
      have a1 := a.step g S
      refine p _ G' H' ⟨S, a1.gr, a1.rs.setO hi1 hi2 hi3 hq dq n2 (a.gr.dom q n1) (fun z => a.sit.fpH q z n1) fun j d m _ e z => ?_⟩
      obtain ⟨r, ws, es, q1, q2, q3, _⟩ := a.rs.own j d e m
      rw [z] at q1; cases q1
      rw [n1] at q3; cases q3
/-- what an owned slot holds -/
theorem At.own {σ : St} {H G : Hp} {ρ : Env} {s : B.W.d} {i : Nat} {d : PD} (a : At B O σ H G ρ s) (m : i ∈ O) (e : ρ[i]? = some (some d)) : ∃ p vs ds, σ[i]? = some (some (.ref p)) ∧ d = .list ds ∧ H p = some (.lst vs) ∧ DgAll G vs ds ∧ G p = none ∧ B.H0 p = none ∧ ¬ B.W.fp p ∧
    Sub G (upd G p (.lst vs)) ∧ Sub (upd G p (.lst vs)) H ∧ Dg (upd G p (.lst vs)) (.ref p) d := by
  obtain ⟨p, vs, ds, h1, h2, h3, h4, h5, h6, h7⟩ := a.rs.own i d e m
  refine ⟨p, vs, ds, h1, h2, h3, h4, h5, h6, h7, sub_upd h5, fun x o h => ?_, ?_⟩
  · by_cases z : x = p
    · subst z; rw [upd_same] at h; cases h; exact h3
    · rw [upd_ne z] at h; exact a.sit.sub x o h
  · rw [h2]; exact .lst upd_same (h4.mono (sub_upd h5))
/-- an owned slot's list is another one, at its own address; the others' stay -/
theorem RS.setO' {W : Wd} {G H H' H0 : Hp} {σ : St} {ρ : Env} {i : Nat} {p : Addr} {vs : List V} {ds : List PD} (r : RS W G H H0 O σ ρ) (hi : i ∈ O)
    (h3 : H' p = some (.lst vs)) (h4 : DgAll G vs ds) (h5 : G p = none) (h6 : H0 p = none) (h7 : ¬ W.fp p) (hne : ∀ j d, j ∈ O → j ≠ i → ρ[j]? = some (some d) → σ[j]? ≠ some (some (.ref p)))
    (hst : ∀ j d, j ∈ O → j ≠ i → ρ[j]? = some (some d) → ∀ q, σ[j]? = some (some (.ref q)) → ∀ o, H q = some o → H' q = some o) : RS W G H' H0 O (σ.set i (some (.ref p))) (ρ.set i (some (.list ds))) := by
  -- the same slots with i left out, then i set
  have r1 : RS W G H H0 O (σ.set i none) (ρ.set i none) := by
    refine ⟨by rw [List.length_set, List.length_set]; exact r.len, fun j e h n => ?_, fun j e h m => ?_, fun j k q e f m1 m2 h1 h2 h3 h4 => ?_⟩
    · have z : i ≠ j := fun z => n (by rw [← z]; exact hi)
      rw [List.getElem?_set_ne z] at h ⊢
      exact r.plain j e h n
    · by_cases z : i = j
      · subst z
        by_cases hl : i < ρ.length
        · rw [List.getElem?_set_self hl] at h; cases h
        · rw [List.getElem?_eq_none (by rw [List.length_set]; omega)] at h; cases h
      · rw [List.getElem?_set_ne z] at h ⊢
        exact r.own j e h m
    · have z1 : i ≠ j := fun z => by
        subst z
        by_cases hl : i < ρ.length
        · rw [List.getElem?_set_self hl] at h1; cases h1
        · rw [List.getElem?_eq_none (by rw [List.length_set]; omega)] at h1; cases h1
      have z2 : i ≠ k := fun z => by
        subst z
        by_cases hl : i < ρ.length
        · rw [List.getElem?_set_self hl] at h2; cases h2
        · rw [List.getElem?_eq_none (by rw [List.length_set]; omega)] at h2; cases h2
      rw [List.getElem?_set_ne z1] at h1 h3
      rw [List.getElem?_set_ne z2] at h2 h4
      exact r.apart j k q e f m1 m2 h1 h2 h3 h4
  have nj : ∀ {j : Nat} {d : PD}, (ρ.set i none)[j]? = some (some d) → i ≠ j ∧ ρ[j]? = some (some d) := fun {j d} h => by
    have z : i ≠ j := fun z => by
      subst z
      by_cases hl : i < ρ.length
      · rw [List.getElem?_set_self hl] at h; cases h
      · rw [List.getElem?_eq_none (by rw [List.length_set]; omega)] at h; cases h
    rw [List.getElem?_set_ne z] at h
    exact ⟨z, h⟩
  have r2 : RS W G H' H0 O (σ.set i none) (ρ.set i none) := by
    refine ⟨r1.len, r1.plain, fun j e h m => ?_, r1.apart⟩
    obtain ⟨q, ws, es, q1, q2, q3, q4⟩ := r1.own j e h m
    obtain ⟨z, h'⟩ := nj h
    rw [List.getElem?_set_ne z] at q1
    exact ⟨q, ws, es, by rw [List.getElem?_set_ne z]; exact q1, q2, hst j e m (Ne.symm z) h' q q1 _ q3, q4⟩
  have r3 := r2.setO (O' := O) (i := i) (fun j m => .inr m) (fun j m => .inr m) hi h3 h4 h5 h6 h7 fun j d m n e z => by
    obtain ⟨z', e'⟩ := nj e
    rw [List.getElem?_set_ne z'] at z
    exact hne j d m n e' z
  rw [List.set_set, List.set_set] at r3
  exact r3
/-- x.append(e) -/
def sApp {d : Type} (i : Nat) (f : Env → d → R (PD × d)) : Env → d → R (Fl × d) := fun ρ s => match ρ[i]? with
  | some (some (.list ds)) => bnd (f ρ s) fun x s1 => if isD x && decide (ds.length < sizeLine) then .ok (.nx (ρ.set i (some (.list (ds ++ [x])))), s1) else .bad
  | _ => .bad
theorem ds_append (i : Nat) {x : Str} {e : Expr} {fe : Mx B PD} {p apos cpos pos : Pos} (he : DE X B O e fe) (hm : i ∈ O := by decide) (hN : X.N[i]? = some x := by rfl) (hv : Vis X.env.scope x := by first | exact Or.inl rfl | exact Or.inr (Or.inl rfl) | exact Or.inr (Or.inr rfl)) (hd : (x == ("__debug__" : Str)) = false := by decide)
    (hcd : (x == ("__classdict__" : Str)) = false := by decide) (hbase : attributeBase (.Name x p) "append" X.env (eval (.Name x p) X.env) = eval (.Name x p) X.env := by rfl) (hline : (apos.endLine == cpos.line) = true := by rfl) (hst : starEach [e] X.env = (false, eval e X.env) :: starEach [] X.env := by rfl)
    (hfew : ((backTo cpos (starEach [e] X.env)).all (fun x => !x.1) && (backToKw cpos (keywordEach [] X.env)).all (fun x => x.1.isSome) && decide ([e].length + ([] : List Keyword).length + (if ([] : List Keyword).isEmpty then 0 else 1) < 30)) = true := by rfl)
    (hpl : (backTo cpos (starEach [] X.env)).any (·.1) = false := by rfl)
    (hs : swapsWith (.Call (.Attribute (.Name x p) "append" apos) [e] [] cpos) none pos.line X.env = pure false := by rfl) : DS X B O O (.Expr (.Call (.Attribute (.Name x p) "append" apos) [e] [] cpos) pos) (sApp i fe) := by
  refine PS.imp (ps_expr (pe_bm PySem.F.plainAttrs_list PySem.F.slot_list_append PySem.F.type_list_append mt_append (pe_var hN hv hd hcd) (pa_cons he pa_nil hst) hbase hfew hline hst hpl) hs) fun D σ H h => ?_
  obtain ⟨G, ρ, s, a, q⟩ := h
  unfold sApp at q
  split at q
  · rename_i ds e1
    obtain ⟨l, vs, ds', h1, h2, h3, h4, h5, h6, h7, _⟩ := a.own hm e1
    cases h2
    refine ⟨.ref l, h1, .inl ⟨rfl, _, SqL.of h3⟩, ?_⟩
    refine rdE.thenS a q fun w G1 H1 d s1 a1 g1 rv p1 => ?_
    by_cases hc : (isD d && decide (ds.length < sizeLine)) = true
    · rw [if_pos hc] at p1
      rw [Bool.and_eq_true, decide_eq_true_eq] at hc
      have h3' := g1.h l _ h7 h3
      have n5 : G1 l = none := by
        cases z : G1 l with
        | none => rfl
        | some o =>
          rcases g1.new l o z with y | y
          · rw [h5] at y; cases y
          · rw [h3] at y; cases y
      refine ⟨l, vs, w, rfl, rfl, h3', by rw [h4.len]; exact hc.2, ?_⟩
      -- the slot's own list has grown
      have hdd := (h4.mono g1.g).app (.cons (rv.dg (isD_tok hc.1)) .nil)
      have ne : ∀ j d', j ∈ O → j ≠ i → ρ[j]? = some (some d') → σ[j]? ≠ some (some (.ref l)) := fun j d' m n ej z => n (a.rs.apart j i l d' _ m hm ej e1 z h1)
      have hset : σ.set i (some (.ref l)) = σ := by
        apply List.ext_getElem?
        intro k
        by_cases hk : i = k
        · subst hk
          rw [List.getElem?_set_self (List.getElem?_eq_some_iff.mp h1).1, h1]
        · rw [List.getElem?_set_ne hk]
      -- all but this slot at the new heap
      have at2 : At B O (σ.set i (some (.ref l))) (upd H1 l (.lst (vs ++ [w]))) G1 (ρ.set i (some (.list (ds ++ [d])))) s1 := by
        refine ⟨⟨fun y o hy => ?_, a1.sit.fpG, fun y f z => ?_, B.W.keep a1.sit.rep (fun _ _ e => e) fun y o f hy => ?_⟩, ⟨a1.gr.g, fun y o n hy => ?_, fun y hy => ?_, a1.gr.new⟩, ?_⟩
        · rw [upd_ne (ne_of_none hy n5)]; exact a1.sit.sub y o hy
        · have q : y ≠ l := fun q => h7 (by rw [← q]; exact f)
          rw [upd_ne q] at z; exact a1.sit.fpH y f z
        · have q : y ≠ l := fun q => h7 (by rw [← q]; exact f)
          rw [upd_ne q]; exact hy
        · rw [upd_ne (ne_of_none hy h6)]; exact a1.gr.h y o n hy
        · by_cases z : y = l
          · subst z; exact h6
          · rw [upd_ne z] at hy; exact a1.gr.dom y hy
        · refine RS.setO' a1.rs hm upd_same hdd n5 h6 h7 (fun j d' m n ej => ne j d' m n ej) fun j d' m n ej p' hp' o hp => ?_
          have z : p' ≠ l := fun z => ne j d' m n ej (by rw [← z]; exact hp')
          rw [upd_ne z]; exact hp
      rw [hset] at at2
      exact p1 σ G1 _ at2
    · rw [if_neg hc] at p1; exact p1.elim
  · exact q.elim
end
end DL

/-! DL9: owned lists read, methods of lists, draws -/
namespace DL
open PySem PySem.Spec PyProof.Rows L2
section
variable {X : Cx} {B : Bs} {O O' : List Nat}
theorem cVar_some {d : Type} {ρ : Env} {i : Nat} {x : PD} {s : d} (e : ρ[i]? = some (some x)) : cVar i ρ s = .ok (x, s) := by
  unfold cVar; rw [e]
theorem cVar_none {d : Type} {ρ : Env} {i : Nat} {s : d} (e : ∀ x, ρ[i]? ≠ some (some x)) : cVar i ρ s = .bad := by
  unfold cVar
  split
  · rename_i x h; exact absurd h (e x)
  · rfl
/-- an owned slot's value, or nothing -/
theorem At.ownV {σ : St} {H G : Hp} {ρ : Env} {s : B.W.d} (i : Nat) (a : At B O σ H G ρ s) (m : i ∈ O) : (∀ x, ρ[i]? ≠ some (some x)) ∨ ∃ p vs ds, ρ[i]? = some (some (.list ds)) ∧ σ[i]? = some (some (.ref p)) ∧ H p = some (.lst vs) ∧ DgAll G vs ds ∧ G p = none ∧ B.H0 p = none ∧ ¬ B.W.fp p := by
  cases e : ρ[i]? with
  | none => exact .inl fun x h => by cases h
  | some y =>
    cases y with
    | none => exact .inl fun x h => by cases h
    | some d =>
      obtain ⟨p, vs, ds, h1, h2, h3, h4, h5, h6, h7, _⟩ := a.own m e
      subst h2
      exact .inr ⟨p, vs, ds, rfl, h1, h3, h4, h5, h6, h7⟩
theorem de_ixO (i : Nat) {x : Str} {b : Expr} {fb : Mx B PD} {p pos : Pos} (hb : DE X B O b fb) (hm : i ∈ O := by decide) (hN : X.N[i]? = some x := by rfl) (hv : Vis X.env.scope x := by first | exact Or.inl rfl | exact Or.inr (Or.inl rfl) | exact Or.inr (Or.inr rfl)) (hd : (x == ("__debug__" : Str)) = false := by decide)
    (hcd : (x == ("__classdict__" : Str)) = false := by decide) (hs : PlainIx b := by intro _ _; rfl) : DE X B O (.Subscript (.Name x p) b pos) (cOp pIx (cVar i) fb) :=
  PE.imp (pe_ix ix_list (pe_var hN hv hd hcd) hb hs) fun σ H Q h => by
    obtain ⟨G, ρ, s, a, q⟩ := h
    unfold cOp at q
    rcases a.ownV i hm with z | ⟨l, vs, ds, e1, h1, h3, h4, h5, h6, h7⟩
    · rw [cVar_none z] at q; exact q.elim
    · rw [cVar_some e1, bnd_ok] at q
      refine ⟨.ref l, h1, ?_⟩
      refine rdE.then a q fun y G1 H1 d s1 a1 g1 ry p1 => ?_
      cases d with
      | int j =>
        have p1 : PostE B G1 H1 (lft (isOk (pIx (.list ds) (.int j))) s1) Q := p1
        unfold pIx at p1
        dsimp only at p1
        cases e2 : L2.atI ds j with
        | none => rw [e2] at p1; exact p1.elim
        | some d' =>
          rw [e2] at p1
          obtain ⟨v, f1, f2⟩ := (h4.mono g1.g).atI e2
          exact ⟨l, vs, j, v, rfl, (ry.dg (isD_tok rfl)).of_int, SqL.of (g1.h l _ h7 h3), f1, p1.done a1.sit (.inl f2)⟩
      | none => exact p1.elim
      | bool _ => exact p1.elim
      | str _ => exact p1.elim
      | list _ => exact p1.elim
      | tuple _ => exact p1.elim
      | dict _ => exact p1.elim
theorem de_lenO (i : Nat) {x : Str} {p p2 pos : Pos} (hm0 : X.mg "len" = none) (hm : i ∈ O := by decide) (hN : X.N[i]? = some x := by rfl) (hv : Vis X.env.scope x := by first | exact Or.inl rfl | exact Or.inr (Or.inl rfl) | exact Or.inr (Or.inr rfl)) (hd : (x == ("__debug__" : Str)) = false := by decide)
    (hcd : (x == ("__classdict__" : Str)) = false := by decide) (hg : Gl X "len" := by rfl) (he : starEach [.Name x p2] X.env = (false, eval (.Name x p2) X.env) :: starEach [] X.env := by rfl) (hpl : (backTo pos (starEach [] X.env)).any (·.1) = false := by rfl) : DE X B O (.Call (.Name "len" p) [.Name x p2] [] pos) (cCall pLen (aCons (cVar i) aNil)) :=
  PE.imp (pe_callB call_len_seq hg hm0 PySem.boot_len (pa_cons (pe_var hN hv hd hcd) pa_nil he) (by decide) (by decide) he hpl) fun σ H Q h => by
    obtain ⟨G, ρ, s, a, q⟩ := h
    unfold cCall aCons at q
    rcases a.ownV i hm with z | ⟨l, vs, ds, e1, h1, h3, h4, h5, h6, h7⟩
    · rw [cVar_none z] at q; exact q.elim
    · rw [cVar_some e1] at q
      refine ⟨.ref l, h1, l, vs, rfl, .inl (SqL.of h3), ?_⟩
      rw [h4.len]
      exact PostE.done (d := .int ds.length) a.sit (.inl (.int _)) q
theorem DgAll.nil_of {G : Hp} : DgAll G [] [] := .nil
/-- x[lo:hi] of an owned list -/
theorem rd_sliceO {i : Nat} {fl fh : Mx B (Option Int)} {σ : St} {H : Hp} {Q : VK} (hm : i ∈ O) (h : rdE B O (cSl pSl (cVar i) fl fh) σ H Q) : tSl (rSlL X.K) (tVar i) (rdPt B O fl) (rdPt B O fh) σ H Q := by
  obtain ⟨G, ρ, s, a, q⟩ := h
  unfold cSl at q
  rcases a.ownV i hm with z | ⟨l, vs, ds, e1, h1, h3, h4, h5, h6, h7⟩
  · rw [cVar_none z] at q; exact q.elim
  · rw [cVar_some e1, bnd_ok] at q
    refine ⟨.ref l, h1, ?_⟩
    refine rdPt.then a q fun lo G2 H2 s2 a2 g2 p2 => ?_
    refine rdPt.then a2 p2 fun hi G3 H3 s3 a3 g3 p3 => ?_
    have p3 : PostE B G3 H3 (.ok (.list (cutD ds lo hi), s3)) Q := p3
    exact ⟨l, vs, rfl, SqL.of (g3.h l _ h7 (g2.h l _ h7 h3)), fun q hq => p3.lst a3.sit (((h4.mono g2.g).mono g3.g).cut _ _) hq⟩
theorem de_sliceO (i : Nat) {x : Str} {lo hi : Option Expr} {fl fh : Mx B (Option Int)} {p p2 pos : Pos} (hl : DO X B O lo fl) (hh : DO X B O hi fh) (hm : i ∈ O := by decide) (hN : X.N[i]? = some x := by rfl) (hv : Vis X.env.scope x := by first | exact Or.inl rfl | exact Or.inr (Or.inl rfl) | exact Or.inr (Or.inr rfl)) (hd : (x == ("__debug__" : Str)) = false := by decide)
    (hcd : (x == ("__classdict__" : Str)) = false := by decide) : DE X B O (.Subscript (.Name x p) (.Slice lo hi none p2) pos) (cSl pSl (cVar i) fl fh) :=
  PE.imp (pe_slice sl_list (pe_var hN hv hd hcd) hl hh) fun σ H Q h => rd_sliceO hm h
/-- .. fresh, ours -/
def fSl {d : Type} (i : Nat) (l h : Env → d → R (Option Int × d)) : Env → d → R (List PD × d) := fun ρ s => match ρ[i]? with
  | some (some (.list ds)) => bnd (l ρ s) fun lo s2 => bnd (h ρ s2) fun hi s3 => .ok (cutD ds lo hi, s3)
  | _ => .bad
theorem rdPt.thenF {f : Mx B (Option Int)} {σ : St} {H : Hp} {Q : Option Int → Hp → Prop} {Q' : VK} {G : Hp} {ρ : Env} {s : B.W.d} {k : Option Int → B.W.d → R (List PD × B.W.d)}
    (a : At B O σ H G ρ s) (p : PostF B G H (bnd (f ρ s) k) Q') (h : ∀ x G1 H1 s1, At B O σ H1 G1 ρ s1 → Gr B.W.fp G H G1 H1 → PostF B G1 H1 (k x s1) Q' → Q x H1) : rdPt B O f σ H Q := by
  refine ⟨G, ρ, s, a, ?_⟩
  cases e : f ρ s with
  | ok x =>
    obtain ⟨d, s1⟩ := x
    rw [e] at p
    exact fun G1 H1 g S => h d G1 H1 s1 (a.step g S) g (PostF.mono g p)
  | exc c => rw [e] at p; exact p
  | bad => rw [e] at p; exact p
theorem PostF.new {G H : Hp} {vs : List V} {ds : List PD} {s : B.W.d} {Q : VK} {p : Addr} (S : Sit B.W G H s) (r : DgAll G vs ds) (q : PostF B G H (.ok (ds, s)) Q) (hp : H p = none) : Q (.ref p) (upd H p (.lst vs)) := by
  refine q p vs G _ (Gr.allocH hp) (S.allocH hp) hp ?_ upd_same r
  cases z : G p with
  | none => rfl
  | some o => rw [S.sub _ _ z] at hp; cases hp
theorem df_sliceO (i : Nat) {x : Str} {lo hi : Option Expr} {fl fh : Mx B (Option Int)} {p p2 pos : Pos} (hl : DO X B O lo fl) (hh : DO X B O hi fh) (hm : i ∈ O := by decide) (hN : X.N[i]? = some x := by rfl) (hv : Vis X.env.scope x := by first | exact Or.inl rfl | exact Or.inr (Or.inl rfl) | exact Or.inr (Or.inr rfl)) (hd : (x == ("__debug__" : Str)) = false := by decide)
    (hcd : (x == ("__classdict__" : Str)) = false := by decide) : DF X B O (.Subscript (.Name x p) (.Slice lo hi none p2) pos) (fSl i fl fh) :=
  PE.imp (pe_slice sl_list (pe_var hN hv hd hcd) hl hh) fun σ H Q h => by
    obtain ⟨G, ρ, s, a, q⟩ := h
    unfold fSl at q
    rcases a.ownV i hm with z | ⟨l, vs, ds, e1, h1, h3, h4, h5, h6, h7⟩
    · split at q
      · rename_i ds e; exact absurd e (z _)
      · exact q.elim
    · rw [e1] at q
      refine ⟨.ref l, h1, ?_⟩
      refine rdPt.thenF a q fun lo G2 H2 s2 a2 g2 p2 => ?_
      refine rdPt.thenF a2 p2 fun hi G3 H3 s3 a3 g3 p3 => ?_
      exact ⟨l, vs, rfl, SqL.of (g3.h l _ h7 (g2.h l _ h7 h3)), fun q hq => p3.new a3.sit (((h4.mono g2.g).mono g3.g).cut _ _) hq⟩
/-- a + b of lists, fresh, ours -/
def fCat {d : Type} (a b : Env → d → R (PD × d)) : Env → d → R (List PD × d) := fun ρ s => bnd (a ρ s) fun x s1 => bnd (b ρ s1) fun y s2 => match x, y with
  | .list xs, .list ys => if xs.length + ys.length ≤ sizeLine then .ok (xs ++ ys, s2) else .bad
  | _, _ => .bad
theorem df_cat {a b : Expr} {fa fb : Mx B PD} {pos : Pos} (ha : DE X B O a fa) (hb : DE X B O b fb) : DF X B O (.BinOp a .Add b pos) (fCat fa fb) :=
  PE.imp (pe_op op_cat ha hb) fun σ H Q h => by
    obtain ⟨G, ρ, s, a, q⟩ := h
    refine rdE.fst a (fun G H r => PostF B G H r Q) (fun g p => p.mono g) (fun p => p) (fun p => p) q fun x G1 H1 dx s1 a1 g1 rx p1 => ?_
    refine rdE.fst a1 (fun G H r => PostF B G H r Q) (fun g p => p.mono g) (fun p => p) (fun p => p) p1 fun y G2 H2 dy s2 a2 g2 ry p2 => ?_
    split at p2
    · rename_i xs ys
      split at p2
      · rename_i hl
        obtain ⟨l, vs, rfl, gl, dl⟩ := ((rx.mono g2.g).dg (isD_tok rfl)).of_lst
        obtain ⟨m, ws, rfl, gm, dm⟩ := (ry.dg (isD_tok rfl)).of_lst
        exact ⟨l, m, vs, ws, rfl, rfl, a2.sit.sub _ _ gl, a2.sit.sub _ _ gm, by rw [dl.len, dm.len]; exact hl, fun q hq => p2.new a2.sit (dl.app dm) hq⟩
      · exact p2.elim
    · exact p2.elim
/-- e in x, e not in x, x owned: a bool comes back -/
theorem rd_opO {f : PD → PD → R PD} {r : R2} {i : Nat} {fe : Mx B PD} {σ : St} {H : Hp} {Q : VK} (hm : i ∈ O) (hb : ∀ d e r, f d e = .ok r → ∃ b, r = .bool b)
    (hr : ∀ (x : V) (l : Addr) (G H : Hp) (vs : List V) (ds : List PD) (d : PD) (b : Bool), Sub G H → Dg G x d → G l = some (.lst vs) → DgAll G vs ds → f d (.list ds) = .ok (.bool b) → ∀ Q : VK, Q (.bl b) H → r x (.ref l) H Q) (h : rdE B O (cOp f fe (cVar i)) σ H Q) : tOp r (rdE B O fe) (tVar i) σ H Q := by
  obtain ⟨G, ρ, s, a, q⟩ := h
  refine rdE.then a q fun x G1 H1 dx s1 a1 g1 rx p1 => ?_
  rcases a1.ownV i hm with z | ⟨l, vs, ds, e1, h1, h3, h4, h5, h6, h7⟩
  · rw [cVar_none z] at p1; exact p1.elim
  · rw [cVar_some e1, bnd_ok] at p1
    refine ⟨.ref l, h1, ?_⟩
    by_cases hd : isD dx = true
    · have p1 : PostE B G1 H1 (if isD dx && isD (.list ds) then lft (isOk (f dx (.list ds))) s1 else .bad) Q := p1
      rw [if_pos (by rw [hd]; rfl)] at p1
      cases ef : f dx (.list ds) with
      | bad => rw [ef] at p1; exact p1.elim
      | exc c => rw [ef] at p1; exact p1.elim
      | ok v =>
        obtain ⟨b, rfl⟩ := hb _ _ _ ef
        rw [ef] at p1
        have sg : Sub G1 (upd G1 l (.lst vs)) := sub_upd h5
        refine hr x l (upd G1 l (.lst vs)) H1 vs ds dx b (fun y o hy => ?_) ((rx.dg (isD_tok hd)).mono sg) upd_same (h4.mono sg) ef Q (PostE.done (d := .bool b) a1.sit (.inl (.bl b)) p1)
        by_cases z : y = l
        · subst z; rw [upd_same] at hy; cases hy; exact h3
        · rw [upd_ne z] at hy; exact a1.sit.sub y o hy
    · have p1 : PostE B G1 H1 (if isD dx && isD (.list ds) then lft (isOk (f dx (.list ds))) s1 else .bad) Q := p1
      rw [if_neg (by rw [Bool.and_eq_true]; exact fun z => hd z.1)] at p1
      exact p1.elim
theorem pNotIn_b (d e r : PD) (h : pNotIn d e = .ok r) : ∃ b, r = .bool b := by
  unfold pNotIn at h
  split at h
  · split at h
    · cases h; exact ⟨_, rfl⟩
    · cases h
  · cases h
theorem dt_notInO (i : Nat) {x : Str} {e : Expr} {fe : Mx B PD} {p pos : Pos} (hu : X.A.units + 65 < cLine) (he : DE X B O e fe) (hm : i ∈ O := by decide) (hN : X.N[i]? = some x := by rfl) (hv : Vis X.env.scope x := by first | exact Or.inl rfl | exact Or.inr (Or.inl rfl) | exact Or.inr (Or.inr rfl)) (hd : (x == ("__debug__" : Str)) = false := by decide)
    (hcd : (x == ("__classdict__" : Str)) = false := by decide) (hmk : behindInMarks .NotIn (.Name x p) = false := by rfl) : DT X B O (.Compare e [.NotIn] [.Name x p] pos) (cTest (cOp pNotIn fe (cVar i))) :=
  PT.imp (pt_cmpR (op_notInD hu) he (pe_var hN hv hd hcd) hmk) fun σ H Q h => by
    have h2 := rd_test h
    refine rd_opO hm pNotIn_b (fun x l G H vs ds d b sb rx gl dl ef Q q => ?_) h2
    unfold pNotIn at ef
    dsimp only at ef
    split at ef
    · rename_i hs
      rw [Bool.and_eq_true] at hs
      cases ef
      exact ⟨d, ds, rx.dp sb, (Dg.lst gl dl).dp sb, hs.1, hs.2, q⟩
    · cases ef
/-- x += list, x owned -/
def sAugL {d : Type} (i : Nat) (f : Env → d → R (PD × d)) : Env → d → R (Fl × d) := fun ρ s => match ρ[i]? with
  | some (some (.list ds)) => bnd (f ρ s) fun x s1 => match x with
    | .list es => if ds.length + es.length ≤ sizeLine then .ok (.nx (ρ.set i (some (.list (ds ++ es)))), s1) else .bad
    | _ => .bad
  | _ => .bad
theorem ds_augL (i : Nat) {x : Str} {e : Expr} {fe : Mx B PD} {pos pos' : Pos} (hN : X.N.Nodup) (he : DE X B O e fe) (hm : i ∈ O := by decide) (hi : X.N[i]? = some x := by rfl) (hx : Loc X.env.scope x := by first | exact Or.inl rfl | exact Or.inr rfl)
    (hf : X.fn x = true ∨ X.env.scope.names.lookup x = some .local := by first | exact .inl rfl | exact .inr rfl) : DS X B O O (.AugAssign (.Name x pos') .Add e pos) (sAugL i fe) :=
  PS.imp (ps_aug hN hi hx he (ti := rExt2) iop_ext hf) fun D σ H h => by
    obtain ⟨G, ρ, s, a, q⟩ := h
    unfold sAugL at q
    rcases a.ownV i hm with z | ⟨l, vs, ds, e1, h1, h3, h4, h5, h6, h7⟩
    · split at q
      · rename_i ds e; exact absurd e (z _)
      · exact q.elim
    · rw [e1] at q
      refine ⟨.ref l, h1, ?_⟩
      refine rdE.thenS a q fun w G1 H1 d s1 a1 g1 rv p1 => ?_
      cases d with
      | list es =>
        dsimp only at p1
        by_cases hc : ds.length + es.length ≤ sizeLine
        · rw [if_pos hc] at p1
          obtain ⟨m, us, rfl, gm, dm⟩ := (rv.dg (isD_tok rfl)).of_lst
          have h3' := g1.h l _ h7 h3
          have n5 : G1 l = none := by
            cases z : G1 l with
            | none => rfl
            | some o =>
              rcases g1.new l o z with y | y
              · rw [h5] at y; cases y
              · rw [h3] at y; cases y
          refine ⟨l, m, vs, us, rfl, rfl, h3', a1.sit.sub _ _ gm, by rw [h4.len, dm.len]; exact hc, ?_⟩
          have hdd := (h4.mono g1.g).app dm
          have ne : ∀ j d', j ∈ O → j ≠ i → ρ[j]? = some (some d') → σ[j]? ≠ some (some (.ref l)) := fun j d' m n ej z => n (a.rs.apart j i l d' _ m hm ej e1 z h1)
          refine p1 _ G1 _ ⟨⟨fun y o hy => ?_, a1.sit.fpG, fun y f z => ?_, B.W.keep a1.sit.rep (fun _ _ e => e) fun y o f hy => ?_⟩, ⟨a1.gr.g, fun y o n hy => ?_, fun y hy => ?_, a1.gr.new⟩, ?_⟩
          · rw [upd_ne (ne_of_none hy n5)]; exact a1.sit.sub y o hy
          · have q : y ≠ l := fun q => h7 (by rw [← q]; exact f)
            rw [upd_ne q] at z; exact a1.sit.fpH y f z
          · have q : y ≠ l := fun q => h7 (by rw [← q]; exact f)
            rw [upd_ne q]; exact hy
          · rw [upd_ne (ne_of_none hy h6)]; exact a1.gr.h y o n hy
          · by_cases z : y = l
            · subst z; exact h6
            · rw [upd_ne z] at hy; exact a1.gr.dom y hy
          · refine RS.setO' a1.rs hm upd_same hdd n5 h6 h7 (fun j d' m n ej => ne j d' m n ej) fun j d' m n ej p' hp' o hp => ?_
            have z : p' ≠ l := fun z => ne j d' m n ej (by rw [← z]; exact hp')
            rw [upd_ne z]; exact hp
        · rw [if_neg hc] at p1; exact p1.elim
      | _ => exact p1.elim

/-! ### xs.count(y) -/
def eqb (k : Bool) (v : Value) : Bool := match v with
  | .bool n => n == k
  | _ => false
theorem mt_bcount : MtR X "list.count" (fun x xs H Q => ∃ (p : Addr) (ns : List Bool) (k : Bool), x = .ref p ∧ xs = [.bl k] ∧ SqL X.K H p (ns.map V.bl) ∧ Q (.int (ns.count k : Nat)) H) := by
  intro pins s σ H x xs v us Q I rx rxs h
  obtain ⟨p, ns, k, rfl, rfl, hs, q⟩ := h
  cases rx
  obtain ⟨u, rfl, ru⟩ := rxs.one
  cases ru
  obtain ⟨its, rv, ⟨⟨cls, dd, data, sl⟩, n, ho, hc, hdn, hd⟩, hlen⟩ := I.list hs
  simp only at hc hd
  subst hc hd
  have hb : ∀ {us : List Value} {ns : List Bool}, Vals (ns.map V.bl) us → us = ns.map Value.bool := by
    intro us ns
    induction ns generalizing us with
    | nil => intro h; cases h; rfl
    | cons b bs ih =>
      intro h
      cases h with
      | cons r t => rw [show _ = Value.bool b from r, ih t]; rfl
  have hi := hb rv
  refine call_meets PySem.F.slot_list_count ⟨_, ho, rfl⟩ PySem.F.entry_list_count (PySem.F.args_list_count_2 _ _)
    (SeqAt.list_countAt p its.toArray n dd sl (.bool k) (eqb k)) ⟨ho, fun y hy => ?_, ?_⟩
  · rw [hi] at hy
    simp only [List.mem_toArray, List.mem_map] at hy
    obtain ⟨b, _, rfl⟩ := hy
    exact SeqAt.EqAt.bool_bool b k
  · have ec : its.toArray.toList.countP (eqb k) = ns.count k := by
      rw [hi]
      show (ns.map Value.bool).countP (eqb k) = ns.count k
      rw [List.countP_map, List.count]
      rfl
    refine ⟨.int (ns.count k : Nat), H, I.tok _, ⟨s.toks, ?_⟩, q⟩
    show Value.int ((its.toArray.toList.countP (eqb k) : Nat) : Int) s.toks = Value.int ((ns.count k : Nat) : Int) s.toks
    rw [ec]
/-- a method of a list, one argument, nothing changed -/
def rdM (f : PD → PD → R PD) : V → List V → Hp → VK → Prop := fun x xs H Q => ∃ y, xs = [y] ∧ rdO f x y H Q
theorem MtR.by {id : String} {r' : V → List V → Hp → VK → Prop} (h : ∀ x vs H Q, r' x vs H Q → ∃ r, MtR X id r ∧ r x vs H Q) : MtR X id r' := fun pins s σ H x xs v us Q I rx rxs q => by
  obtain ⟨r, hr, q'⟩ := h x xs H Q q
  exact hr pins s σ H x xs v us Q I rx rxs q'
def pCount : PD → PD → R PD
  | .list xs, .bool k => match toBools xs with
    | some bs => .ok (.int (bs.count k : Nat))
    | none => .bad
  | .list xs, .int k => match toInts xs with
    | some bs => .ok (.int (bs.count k : Nat))
    | none => .bad
  | _, _ => .bad
theorem dm_count : MtR X "list.count" (rdM pCount) := by
  refine MtR.by fun x vs H Q h => ?_
  obtain ⟨y, rfl, G, d, e, sb, rx, ry, p⟩ := h
  unfold pCount at p
  split at p
  · obtain ⟨a, us, rfl, ga, da⟩ := rx.of_lst
    split at p
    · rename_i bs e
      rw [toBools_eq e] at da
      have e2 := da.bools
      subst e2
      exact ⟨_, mt_bcount, _, bs, _, rfl, by rw [ry.of_bl], SqL.of (sb _ _ ga), p.val sb (.int _)⟩
    · exact p.elim
  · obtain ⟨a, us, rfl, ga, da⟩ := rx.of_lst
    split at p
    · rename_i bs e
      rw [toInts_eq e] at da
      have e2 := da.ints
      subst e2
      exact ⟨_, mt_lcount, _, bs, _, rfl, by rw [ry.of_int], SqL.of (sb _ _ ga), p.val sb (.int _)⟩
    · exact p.elim
  · exact p.elim
/-- o.m(e) of a list -/
def isL : PD → Bool
  | .list _ => true
  | _ => false
def cMeth {d : Type} (f : PD → PD → R PD) (a b : Env → d → R (PD × d)) : Env → d → R (PD × d) := fun ρ s => bnd (a ρ s) fun x s1 => if isL x then bnd (b ρ s1) fun y s2 => if isD y then lft (isOk (f x y)) s2 else .bad else .bad
theorem de_meth {name : Str} {id : String} {f : PD → PD → R PD} {o e : Expr} {fo fe : Mx B PD} {apos cpos : Pos} (slot : Slot "list" name id) (hty : typeOf (.builtin id) = pure (.type "method_descriptor")) (hmt : MtR X id (rdM f)) (ho : DE X B O o fo) (he : DE X B O e fe)
    (hbase : attributeBase o name X.env (eval o X.env) = eval o X.env := by rfl) (hline : (apos.endLine == cpos.line) = true := by rfl) (hst : starEach [e] X.env = (false, eval e X.env) :: starEach [] X.env := by rfl)
    (hfew : ((backTo cpos (starEach [e] X.env)).all (fun x => !x.1) && (backToKw cpos (keywordEach [] X.env)).all (fun x => x.1.isSome) && decide ([e].length + ([] : List Keyword).length + (if ([] : List Keyword).isEmpty then 0 else 1) < 30)) = true := by rfl)
    (hpl : (backTo cpos (starEach [] X.env)).any (·.1) = false := by rfl) : DE X B O (.Call (.Attribute o name apos) [e] [] cpos) (cMeth f fo fe) :=
  PE.imp (pe_bm PySem.F.plainAttrs_list slot hty hmt ho (pa_cons he pa_nil hst) hbase hfew hline hst hpl) fun σ H Q h => by
    obtain ⟨G, ρ, s, a, q⟩ := h
    refine rdE.then a q fun x G1 H1 dx s1 a1 g1 rx p1 => ?_
    cases dx with
    | list ds =>
      obtain ⟨l, vs, rfl, gl, dl⟩ := (rx.dg (isD_tok rfl)).of_lst
      refine ⟨.inl ⟨rfl, vs, SqL.of (a1.sit.sub _ _ gl)⟩, ?_⟩
      have p1 : PostE B G1 H1 (bnd (fe ρ s1) fun y s2 => if isD y then lft (isOk (f (.list ds) y)) s2 else .bad) Q := p1
      refine rdE.then a1 p1 fun y G2 H2 dy s2 a2 g2 ry p2 => ?_
      by_cases hd : isD dy = true
      · rw [if_pos hd] at p2
        exact ⟨y, rfl, G2, .list ds, dy, a2.sit.sub, (rx.mono g2.g).dg (isD_tok rfl), ry.dg (isD_tok hd), (PostD.of a2.sit p2 (isOk_nx _)).isOk⟩
      · rw [if_neg hd] at p2; exact p2.elim
    | _ => exact p1.elim
end

theorem room65 {k : Nat} {A : Around} (r : Room k A) : A.units + 65 < cLine := by have := r.un; omega
/-- fuel for while loops -/
def fuInt (i : Nat) (ρ : Env) : Nat := match ρ[i]? with
  | some (some (.int n)) => n.natAbs + 2
  | _ => 0
def fuLen (i : Nat) (ρ : Env) : Nat := match ρ[i]? with
  | some (some (.list xs)) => xs.length + 2
  | _ => 0
/-! ### draws: [numbers, counter] -/
abbrev Dr := List Int × Int
def Wdr (cls : Nat → Addr) (da db : Addr) : Wd where
  d := Dr
  fp := fun a => a = da ∨ a = db
  rep := fun s _ H => da ≠ db ∧ H da = some (.lst [.ref db, .int s.2]) ∧ H db = some (.lst (s.1.map V.int))
  tk := fun _ => .ref da
  cls := cls
  keep := fun h _ k => ⟨h.1, k _ _ (.inl rfl) h.2.1, k _ _ (.inr rfl) h.2.2⟩
/-- the promise of a def that draws -/
def spD (cls : Nat → Addr) (n : Nat) (m : List PD → Dr → R (PD × Dr)) : Sp := fun vs H Q _ => ∃ (da db : Addr) (G : Hp) (ds : List PD) (s : Dr), Sit (Wdr cls da db) G H s ∧ RpAll (Wdr cls da db).tk G vs ds ∧ ds.length = n ∧ PostE ⟨Wdr cls da db, G, H, E0⟩ G H (m ds s) Q
structure FnD (P : Program) (w : World) (K : PySem.W.Frag) (mg : Str → Option Value) (base : Heap) (cls : Nat → Addr) (k : Nat) (x : Str) (n : Nat) (m : List PD → Dr → R (PD × Dr)) : Prop where
  ex : ∃ f fd ps, FnOk P w K mg base (L2.CX P w) k f fd ps (spD cls n m) ∧ mg x = some (.ref f) ∧ PySem.W.keepIn K (.ref f) = true ∧ Binds K fd ps []
theorem FnD.mono {P : Program} {w : World} {K : PySem.W.Frag} {mg : Str → Option Value} {base : Heap} {cls : Nat → Addr} {k j : Nat} {x : Str} {n : Nat} {m : List PD → Dr → R (PD × Dr)} (F : FnD P w K mg base cls k x n m) (h : k ≤ j) : FnD P w K mg base cls j x n m := by
  obtain ⟨f, fd, ps, h1, h2⟩ := F.ex
  exact ⟨f, fd, ps, h1.mono h, h2⟩
theorem FnD.congr {P : Program} {w : World} {K : PySem.W.Frag} {mg : Str → Option Value} {base : Heap} {cls : Nat → Addr} {k : Nat} {x : Str} {n : Nat} {m m' : List PD → Dr → R (PD × Dr)} (F : FnD P w K mg base cls k x n m) (h : ∀ ds s, ds.length = n → m' ds s = .bad ∨ m ds s = m' ds s) : FnD P w K mg base cls k x n m' := by
  obtain ⟨f, fd, ps, h1, h2⟩ := F.ex
  refine ⟨f, fd, ps, h1.imp fun vs H Q E q => ?_, h2⟩
  obtain ⟨da, db, G, ds, s, a, b, c, p⟩ := q
  refine ⟨da, db, G, ds, s, a, b, c, ?_⟩
  rcases h ds s c with z | z
  · rw [z] at p; exact p.elim
  · rw [z]; exact p
def noX' {a : Type} (r : R a) : R a := match r with
  | .ok x => .ok x
  | _ => .bad
def cCallD (n : Nat) (m : List PD → Dr → R (PD × Dr)) (a : Env → Dr → R (List PD × Dr)) : Env → Dr → R (PD × Dr) := fun ρ s => bnd (a ρ s) fun ds s1 => if ds.length = n then noX' (m ds s1) else .bad
section
variable {X : Cx} {O O' : List Nat} {cls : Nat → Addr} {da db : Addr} {G0 H0 : Hp} {E : XK}
theorem de_callD {k : Nat} {x : Str} {n : Nat} {m : List PD → Dr → R (PD × Dr)} {e : Expr} {es : List Expr} {fa : Env → Dr → R (List PD × Dr)} {p pos : Pos} (F : FnD X.prog X.w X.K X.mg X.base cls k x n m) (hr : Room k X.A) (ha : DA X ⟨Wdr cls da db, G0, H0, E⟩ O (e :: es) fa) (hg : Gl X x := by rfl)
    (hdb : (x == ("__debug__" : Str)) = false := by decide) (he : starEach (e :: es) X.env = (false, eval e X.env) :: starEach es X.env := by rfl) (hpl : (backTo pos (starEach es X.env)).any (·.1) = false := by rfl) : DE X ⟨Wdr cls da db, G0, H0, E⟩ O (.Call (.Name x p) (e :: es) [] pos) (cCallD n m fa) := by
  obtain ⟨f, fd, ps, hF, hm, hk, hb⟩ := F.ex
  refine PE.imp (pe_call hF hr hg hm hk hb .nil passL ha hdb he hpl) fun σ H Q h => ?_
  obtain ⟨G, ρ, s, a, p⟩ := h
  refine rdA.then a p fun vs G1 H1 ds s1 a1 g1 rv p1 => ?_
  by_cases hl : ds.length = n
  · rw [if_pos hl] at p1
    rw [List.append_nil]
    refine ⟨da, db, G1, ds, s1, a1.sit, rv, hl, ?_⟩
    cases e : m ds s1 with
    | ok y => rw [e] at p1; exact p1
    | exc c => rw [e] at p1; exact p1.elim
    | bad => rw [e] at p1; exact p1.elim
  · rw [if_neg hl] at p1; exact p1.elim
end
def outD (r : R (Fl × Dr)) : R (PD × Dr) := match r with
  | .ok (.rt d, s) => .ok (d, s)
  | .ok (.nx _, s) => .ok (.none, s)
  | _ => .bad
def mBodyD (n : Nat) (f : Env → Dr → R (Fl × Dr)) : List PD → Dr → R (PD × Dr) := fun ds s => outD (f (ds.map some ++ List.replicate n none) s)
section
variable {P : Program} {w : World} {K : PySem.W.Frag} {mg : Str → Option Value} {base : Heap} {x qual : Str} {params : Arguments} {body : List Stmt} {scope : Scope} {f : Addr} {fd : FuncData} {cls : Nat → Addr}
/-- A DEF THAT DRAWS, by its body -/
theorem fn_draw {N ps : List Str} {k n : Nat} {fb : Env → Dr → R (Fl × Dr)} (F : FunD K x qual params body scope [] [] f fd) (S : FnScope N ps scope) (hm : mg x = some (.ref f)) (hn : ps.length = n) (hb : Binds K fd ps [])
    (hbody : ∀ (cdv : Value) (A : Around) (outer : List PySem.Env) (s : Shared) (H : Hp) (E : XK) (da db : Addr) (G : Hp), Room k (A.deeper (envOfC qual scope s.heap.objs.size f cdv)) →
      DSs (cxOf (L2.CX P w) P w K mg base N qual scope f cdv A outer s H E) ⟨Wdr cls da db, G, H, E0⟩ [] [] body fb) : FnD P w K mg base cls (k + 1) x n (mBodyD (N.length - n) fb) := by
  refine ⟨f, fd, ps, F.ok S (fun vs H Q E h => ?_) (fun cdv A outer s H vs Q E hr h => ?_), hm, F.kp, hb⟩
  · obtain ⟨da, db, G, ds, s, _, r, hl, _⟩ := h
    rw [r.len, hl, hn]
  · obtain ⟨da, db, G, ds, st, sit, r, hl, p⟩ := h
    refine ⟨_, hbody cdv A outer s H E da db G hr, G, startD N ds, st, ⟨sit, .refl, r.begin_ N⟩, ?_⟩
    unfold mBodyD at p
    have e0 : startD N ds = ds.map some ++ List.replicate (N.length - n) none := by unfold startD; rw [hl]
    rw [e0]
    revert p
    generalize fb (ds.map some ++ List.replicate (N.length - n) none) st = r'
    intro p
    cases r' with
    | bad => exact p.elim
    | exc c => exact p.elim
    | ok y =>
      obtain ⟨fl, u⟩ := y
      cases fl with
      | nx ρ => exact fun σ' G' H' a => p .non G' H' a.gr a.sit (.inl .non)
      | rt d => exact fun v G' H' g st rv => p v G' H' g st rv
      | bk ρ => exact p.elim
      | ct ρ => exact p.elim
end
end DL

/-! DLA: sorted(set(..)) of ints -/
namespace DL
open PySem PySem.Spec PyProof.Rows L2
/-- the set as it is made -/
abbrev newSet (w : World) : Obj := { cls := .type "set", dict := none, data := .set #[] 0 (.fresh 0 0 (!w.params.followText "set-order")) }
section
variable {P : Program} {w : World} {A : Around} {E : Value → Shared → Prop} {s : Shared}
theorem set_of_list {l : Addr} {items : Array Value} (ns : List Int) {Q : Value → Shared → Prop} (hh : A.handled = none) (hl : s.heap.IsList l items) (hit : IntsAre items.toList ns) (hb : ns.length + 1 < scanBound)
    (h : ∀ (h' : Heap) (tk c : Nat), SetR w h' s.heap.objs.size (fun j => decide (j ∈ ns)) c → c ≤ ns.length → (∀ b o, s.heap.get? b = some o → h'.get? b = some o) → Q (.ref s.heap.objs.size) { s with heap := h', toks := tk }) :
    wpAny (model P w) A (call (.type "set") [.ref l]) Q E s := by
  have isz : items.size = ns.length := (Array.length_toList (xs := items)).symm.trans (IntsAre.length hit)
  obtain ⟨c, tl, hmro⟩ := F.called_set.mro
  have hmade := F.called_set.made
  have hsub := F.called_set.sub
  refine wpAny_call (codeAny_of_tree ?_)
  show wpAny _ _ (callAny (.type "set") _) _ _ _
  refine wpAny_pure ⟨Code.quiet_builtin _ (by decide +kernel), codeAny_builtin F.entry_type_call ?_⟩
  rw [Around.under_plain (weight_type_call_type "set" [.ref l] []) rfl]
  have h1 := F.called_set.notType
  have h2 := F.called_set.canCreate
  have hct := F.typeCall_set_1 (.ref l)
  repeat (any_goals (first | assumption | wp_step))
  refine codeAny_mono (code_set_led1 (.ref l) (E := E) (Q₁ := fun obj s₁ => obj = .ref s.heap.objs.size ∧ s₁ = { s with heap := s.heap.push (newSet w) }) ⟨rfl, rfl⟩) fun r s₁ hr => ?_
  cases r with
  | error e => exact hr
  | ok fl =>
    cases fl with
    | ret obj =>
      obtain ⟨rfl, rfl⟩ := hr
      have gS : (s.heap.push (newSet w)).get? s.heap.objs.size = some (newSet w) := Heap.get?_push_size _ rfl
      have tS : Shared.TypeIs { s with heap := s.heap.push (newSet w) } (.ref s.heap.objs.size) "set" := ⟨_, gS, rfl⟩
      have hli := F.called_set.init.lookup
      have hbi := F.called_set.init.bind (.ref s.heap.objs.size)
      repeat (any_goals (first | assumption | wp_step))
      refine codeAny_mono (codeAny_call_builtin (R := wants (fun r s₂ => r = .none ∧ ∃ h' tk c, s₂ = { s with heap := h', toks := tk } ∧ SetR w h' s.heap.objs.size (fun j => decide (j ∈ ns)) c ∧ c ≤ ns.length ∧ (∀ b o, s.heap.get? b = some o → h'.get? b = some o)) E) F.called_set.init.plain F.entry_set_init (check_set_init_1 tS ?_)) fun r₂ s₂ hr₂ => ?_
      · obtain ⟨⟨oc, od, odt, os⟩, gl, rfl, nl, rfl⟩ := hl
        have gl' : (s.heap.push (newSet w)).get? l = some { cls := .type "list", dict := od, data := .seq items nl, slots := os } := Heap.get?_push_of_some _ gl
        have hsls := F.sub_list_set
        have hslf := F.sub_list_frozenset
        have hne : (Value.type "list" == Value.type "dict") = false := by decide
        have hl1 : (s.heap.push (newSet w)).IsList l items := ⟨_, gl', rfl, nl, rfl⟩
        unfold Builtin.«set.__init__» noKeywords Builtin.Frozenset.updateFrom
        generalize hPI : pyIter = PI
        wp_walk
        subst hPI
        refine wpAny_pyIter_list hl1 (wpAny_bind (wpAny_runValue ?_))
        have lS : l < s.heap.objs.size := Heap.lt_size gl
        have h3 : A.in1.in1.in1.handled = none := by simp [hh]
        have zS : (s.heap.push (newSet w)).objs.size = s.heap.objs.size + 1 := Heap.size_push ..
        have nI : l ≠ (s.heap.push (newSet w)).objs.size := by rw [zS]; exact Nat.ne_of_lt (Nat.lt_succ_of_lt lS)
        have nf : s.heap.objs.size ∉ [(s.heap.push (newSet w)).objs.size, l] := by
          rw [zS]
          simp only [List.mem_cons, List.not_mem_nil, or_false, not_or]
          exact ⟨Nat.ne_of_lt (Nat.lt_succ_self _), Nat.ne_of_gt lS⟩
        have vl : ∀ (i : Nat) (v : Value), items[i]? = some v → ∃ k t, ns[i]? = some k ∧ v = .int k t := fun i v hv => by
          have hi : i < ns.length := isz ▸ (Array.getElem?_eq_some_iff.mp hv).1
          obtain ⟨t, e⟩ := PyProof.Rows.IntsAre.int_at hit i v ((Array.getElem?_toList ..).trans hv)
          refine ⟨ns[i], t, List.getElem?_eq_getElem hi, e.trans ?_⟩
          rw [List.getD_eq_getElem?_getD, List.getElem?_eq_getElem hi]; rfl
        refine set_update_ints ((Walks.list h3 _ l nI items).toS) s.heap.objs.size nf ns isz hb vl (items.size - 0) 0 _ (by omega) (Nat.zero_le _) ⟨⟨_, Heap.get?_push_size _ rfl, rfl, rfl⟩, (hl1.push _)⟩ ⟨0, Nat.le_refl 0, setR_new_at (Heap.get?_push_of_some _ gS)⟩ ?_
        intro s' c' hm hc' hS'
        obtain ⟨h', g2, d', tk', os'⟩ := s'
        obtain rfl : g2 = s.gens := hm.gens
        obtain rfl : d' = s.drawn := hm.drawn
        obtain rfl : os' = s.os := hm.os
        refine wpAny_pure (wpAny_pure ⟨rfl, h', tk', c', rfl, hS', isz ▸ hc', fun b o e => ?_⟩)
        have b0 : b < s.heap.objs.size := Heap.lt_size e
        refine hm.heap b o ?_ (Heap.get?_push_of_some _ (Heap.get?_push_of_some _ e))
        simp only [List.mem_cons, List.not_mem_nil, or_false, not_or]
        exact ⟨Nat.ne_of_lt b0, by rw [zS]; exact Nat.ne_of_lt (Nat.lt_succ_of_lt b0)⟩
      · cases r₂ with
        | error e => exact hr₂
        | ok fl₂ =>
          cases fl₂ with
          | ret r =>
            obtain ⟨rfl, h', tk, c', rfl, hS', hc', hk'⟩ := hr₂
            repeat (any_goals (first | assumption | wp_step))
            exact h _ _ _ hS' hc' hk'
          | _ => exact hr₂.elim
    | _ => exact hr.elim
end
section
variable {X : Cx} {B : Bs} {O : List Nat}
theorem cr_setL (hc : X.calm = true) : CallR X (.type "set") (fun vs H Q => ∃ (a : Addr) (ns : List Int), vs = [V.ref a] ∧ SqL X.K H a (ns.map V.int) ∧ ns.length < 4000 ∧ ∀ (p : Addr) (c : Nat), c ≤ ns.length → H p = none → Q (.ref p) (upd H p (SetO X.w p (fun j => decide (j ∈ ns)) c))) := by
  intro pins s σ H vs us Q I r h
  obtain ⟨a, ns, rfl, hs, hl, q⟩ := h
  obtain ⟨its, rv, pl, hz⟩ := I.list hs
  rw [Vals.ref1 r]
  have hi : IntsAre its.toArray.toList ns := ints_of_vals rv
  refine set_of_list ns (I.ok.hd hc) pl.isList hi (by unfold scanBound; omega) fun h' tk c R1 hcn k => ?_
  exact ⟨.ref _, upd H s.heap.objs.size (SetO X.w s.heap.objs.size (fun j => decide (j ∈ ns)) c), I.laid (t' := tk) k (Nat.le_refl _) (setO_new R1), rfl, q _ c hcn (I.hok.fresh (Nat.le_refl _))⟩
/-- sorted(set(xs)), ints -/
def insU (k : Int) : List Int → List Int
  | [] => [k]
  | x :: r => if k < x then k :: x :: r else if k = x then x :: r else x :: insU k r
def sortU : List Int → List Int
  | [] => []
  | x :: r => insU x (sortU r)
theorem mem_insU {k j : Int} : ∀ {l : List Int}, j ∈ insU k l ↔ j = k ∨ j ∈ l
  | [] => by simp [insU]
  | x :: r => by
    unfold insU
    split
    · simp
    · split
      · rename_i h1 h2
        subst h2
        simp
      · simp only [List.mem_cons, mem_insU (l := r)]
        constructor
        · rintro (h | h | h)
          · exact .inr (.inl h)
          · exact .inl h
          · exact .inr (.inr h)
        · rintro (h | h | h)
          · exact .inr (.inl h)
          · exact .inl h
          · exact .inr (.inr h)
theorem mem_sortU {j : Int} : ∀ {l : List Int}, j ∈ sortU l ↔ j ∈ l
  | [] => by simp [sortU]
  | x :: r => by
    unfold sortU
    rw [mem_insU, mem_sortU (l := r), List.mem_cons]
theorem lt_insU {k : Int} : ∀ {l : List Int}, l.Pairwise (· < ·) → (insU k l).Pairwise (· < ·)
  | [], _ => by simp [insU]
  | x :: r, h => by
    have h' := List.pairwise_cons.mp h
    unfold insU
    split
    · rename_i hk
      refine List.pairwise_cons.mpr ⟨fun y hy => ?_, h⟩
      rcases List.mem_cons.mp hy with z | z
      · rw [z]; exact hk
      · exact Int.lt_trans hk (h'.1 y z)
    · split
      · exact h
      · refine List.pairwise_cons.mpr ⟨fun y hy => ?_, lt_insU h'.2⟩
        rcases mem_insU.mp hy with z | z
        · rw [z]; omega
        · exact h'.1 y z
theorem lt_sortU : ∀ {l : List Int}, (sortU l).Pairwise (· < ·)
  | [] => .nil
  | x :: r => lt_insU lt_sortU
theorem sorted_eq : ∀ {l m : List Int}, l.Pairwise (· < ·) → m.Pairwise (· < ·) → (∀ k, k ∈ l ↔ k ∈ m) → l = m
  | [], [], _, _, _ => rfl
  | [], y :: m, _, _, h => by have := (h y).mpr (by simp); simp at this
  | x :: l, [], _, _, h => by have := (h x).mp (by simp); simp at this
  | x :: l, y :: m, h1, h2, h => by
    have p1 := List.pairwise_cons.mp h1
    have p2 := List.pairwise_cons.mp h2
    have e : x = y := by
      rcases List.mem_cons.mp ((h x).mp (by simp)) with z | z
      · exact z
      · rcases List.mem_cons.mp ((h y).mpr (by simp)) with w | w
        · exact w.symm
        · have := p2.1 x z
          have := p1.1 y w
          omega
    subst e
    congr 1
    refine sorted_eq p1.2 p2.2 fun k => ⟨fun hk => ?_, fun hk => ?_⟩
    · rcases List.mem_cons.mp ((h k).mp (List.mem_cons_of_mem _ hk)) with z | z
      · have := p1.1 k hk; omega
      · exact z
    · rcases List.mem_cons.mp ((h k).mpr (List.mem_cons_of_mem _ hk)) with z | z
      · have := p2.1 k hk; omega
      · exact z
def pSortSet : PD → R PD
  | .list xs => match toInts xs with
    | some ns => if ns.length < 64 then .ok (.list ((sortU ns).map PyData.int)) else .bad
    | none => .bad
  | _ => .bad
theorem de_sortSet {e : Expr} {fe : Mx B PD} {p p2 q pos : Pos} (hm1 : X.mg "sorted" = none) (hm2 : X.mg "set" = none) (he : DE X B O e fe) (hc : X.calm = true := by rfl) (hg1 : Gl X "sorted" := by rfl) (hg2 : Gl X "set" := by rfl)
    (s1 : starEach [e] X.env = (false, eval e X.env) :: starEach [] X.env := by rfl) (s2 : starEach [.Call (.Name "set" p2) [e] [] q] X.env = (false, eval (.Call (.Name "set" p2) [e] [] q) X.env) :: starEach [] X.env := by rfl)
    (l1 : (backTo q (starEach [] X.env)).any (·.1) = false := by rfl) (l2 : (backTo pos (starEach [] X.env)).any (·.1) = false := by rfl) : DE X B O (.Call (.Name "sorted" p) [.Call (.Name "set" p2) [e] [] q] [] pos) (cUn pSortSet fe) :=
  PE.imp (pe_callB (cr_sortedSet hc) hg1 hm1 (by decide +kernel) (pa_cons (pe_callTy (cr_setL hc) hg2 hm2 (by decide +kernel) (pa_cons he pa_nil s1) (by decide) (by decide) s1 l1) pa_nil s2) (by decide) (by decide) s2 l2) fun σ H Q h => by
    obtain ⟨G, ρ, s, a, p⟩ := h
    refine rdE.then a p fun x G1 H1 dx s1 a1 g1 rx p1 => ?_
    by_cases hd : isD dx = true
    · rw [if_pos hd] at p1
      unfold pSortSet at p1
      split at p1
      · rename_i xs
        split at p1
        · rename_i ns en
          split at p1
          · rename_i hl
            obtain ⟨l, vs, rfl, gl, dl⟩ := (rx.dg (isD_tok rfl)).of_lst
            rw [toInts_eq en] at dl
            have e2 := dl.ints
            subst e2
            refine ⟨l, ns, rfl, SqL.of (a1.sit.sub _ _ gl), by omega, fun p c hcn hp => ?_⟩
            refine ⟨p, _, c, rfl, upd_same, by omega, fun ms q hlt hmem hlen hq => ?_⟩
            have ems : ms = sortU ns := sorted_eq hlt lt_sortU fun k => by
              rw [hmem k, mem_sortU, decide_eq_true_eq]
            subst ems
            -- the set is an object of its own that the ghost heap does not know
            have S2 := a1.sit.allocH (o := SetO X.w p (fun j => decide (j ∈ ns)) c) hp
            have g2 := Gr.allocH (fp := B.W.fp) (G := G1) (o := SetO X.w p (fun j => decide (j ∈ ns)) c) hp
            exact PostE.lst (ds := (sortU ns).map PyData.int) S2 (DgAll.of_ints _) (PostE.mono g2 p1) hq
          · exact p1.elim
        · exact p1.elim
      · exact p1.elim
    · rw [if_neg hd] at p1; exact p1.elim
/-- sorted(xs), ints -/
def insS (k : Int) : List Int → List Int
  | [] => [k]
  | x :: r => if k ≤ x then k :: x :: r else x :: insS k r
def sortS : List Int → List Int
  | [] => []
  | x :: r => insS x (sortS r)
theorem perm_insS {k : Int} : ∀ {l : List Int}, (insS k l).Perm (k :: l)
  | [] => .refl _
  | x :: r => by
    unfold insS
    split
    · exact .refl _
    · exact ((perm_insS (l := r)).cons x).trans (List.Perm.swap k x r)
theorem perm_sortS : ∀ {l : List Int}, (sortS l).Perm l
  | [] => .refl _
  | x :: r => by
    unfold sortS
    exact perm_insS.trans (perm_sortS.cons x)
theorem le_insS {k : Int} : ∀ {l : List Int}, l.Pairwise (· ≤ ·) → (insS k l).Pairwise (· ≤ ·)
  | [], _ => by simp [insS]
  | x :: r, h => by
    have h' := List.pairwise_cons.mp h
    unfold insS
    split
    · rename_i hk
      refine List.pairwise_cons.mpr ⟨fun y hy => ?_, h⟩
      rcases List.mem_cons.mp hy with z | z
      · rw [z]; exact hk
      · exact Int.le_trans hk (h'.1 y z)
    · refine List.pairwise_cons.mpr ⟨fun y hy => ?_, le_insS h'.2⟩
      rcases List.mem_cons.mp (perm_insS.mem_iff.mp hy) with z | z
      · rw [z]; omega
      · exact h'.1 y z
theorem le_sortS : ∀ {l : List Int}, (sortS l).Pairwise (· ≤ ·)
  | [] => .nil
  | x :: r => le_insS le_sortS
theorem perm_sorted_eq : ∀ {l m : List Int}, l.Perm m → l.Pairwise (· ≤ ·) → m.Pairwise (· ≤ ·) → l = m := fun h a b => List.Perm.eq_of_pairwise (fun x y _ _ h1 h2 => Int.le_antisymm h1 h2) a b h
def pSorted : List PD → R PD
  | [.list xs] => match toInts xs with
    | some ns => .ok (.list ((sortS ns).map PyData.int))
    | none => .bad
  | _ => .bad
theorem dc_sorted : CallR X (.builtin "sorted") (rdC pSorted) := by
  refine CallR.by fun vs H Q h => ?_
  obtain ⟨G, ds, sb, rs, p⟩ := h
  unfold pSorted at p
  split at p
  · obtain ⟨v, rfl, rv⟩ := rs.one
    obtain ⟨a, xs, rfl, ga, da⟩ := rv.of_lst
    split at p
    · rename_i ns e
      rw [toInts_eq e] at da
      have e2 := da.ints
      subst e2
      refine ⟨_, cr_sortedI, _, ns, rfl, SqL.of (sb _ _ ga), fun ms q hp hs hq => ?_⟩
      have em : ms = sortS ns := perm_sorted_eq (hp.trans perm_sortS.symm) hs le_sortS
      subst em
      exact p.lst sb (DgAll.of_ints _) hq
    · exact p.elim
  · exact p.elim
end
end DL

/-! DLB: what every def's derivation wants -/
namespace DL
open PySem PySem.Spec PyProof.Rows L2
structure Free (mg : Str → Option Value) : Prop where
  len_ : mg "len" = none
  isinstance_ : mg "isinstance" = none
  all_ : mg "all" = none
  sum_ : mg "sum" = none
  sorted_ : mg "sorted" = none
  set_ : mg "set" = none
  max_ : mg "max" = none
  min_ : mg "min" = none
  range_ : mg "range" = none
  zip_ : mg "zip" = none
  enumerate_ : mg "enumerate" = none
  list_ : mg "list" = none
  tuple_ : mg "tuple" = none
  abs_ : mg "abs" = none
  str_ : mg "str" = none
  int_ : mg "int" = none
  bool_ : mg "bool" = none
structure ExcF (K : PySem.W.Frag) (mg : Str → Option Value) (cls : Nat → Addr) (c : Nat) (x : Str) : Prop where
  exc : PySem.W.excIn K (cls c) [.type "ValueError", .type "Exception", .type "BaseException", .type "object"] "ValueError.__new__" = true
  glob : mg x = some (.ref (cls c))
  keep : PySem.W.keepIn K (.ref (cls c)) = true
  sub : PySem.W.subIn K (.ref (cls c)) (.type "BaseException") = some true
  typ : PySem.W.typeIn K (.ref (cls c)) = some (.type "type")
theorem ExcF.c {X : Cx} {B : Bs} {c : Nat} {x : Str} (h : ExcF X.K X.mg B.W.cls c x) : ExcC X B c x := ⟨h.exc, h.glob, h.keep, raises_own h.sub h.typ⟩
section
variable {CX : CXT} {P : Program} {w : World} {K : PySem.W.Frag} {mg : Str → Option Value} {base : Heap} {N : List Str} {qual : Str} {scope : Scope} {f : Addr} {cd : Value} {A : Around} {outer : List PySem.Env} {s : Shared} {H : Hp} {E : XK}
theorem takesE_of : Takes (cxOf (L2.CX P w) P w K mg base N qual scope f cd A outer s H E) (fun cls d _ H => E cls d H) := takes_of rfl rfl rfl rfl
theorem passesE_of {X : Cx} {E : XK} (tk : Takes X (fun cls d _ H => E cls d H)) : Passes (L2.CX X.prog X.w) X E := passes_call tk fun _ _ _ _ h => h
theorem passesO_of : PassesOwn (model P w) (cxOf CX P w K mg base N qual scope f cd A outer s H E).A (cxOf CX P w K mg base N qual scope f cd A outer s H E).env (cxOf CX P w K mg base N qual scope f cd A outer s H E).xe := passes_of (X := cxOf CX P w K mg base N qual scope f cd A outer s H E) rfl
end
end DL

/-! DLC: the draws: plain functions -/
namespace DL
open PySem PySem.Spec PyProof.Rows L2
def hashD (cell c lim : Int) : Int := (((cell + 104729 * c) % 4294967291) ^ 5 % 4294967279 / 64 * 69621 + ((cell + 104729 * c) % 4294967291) ^ 5 % 4294967279) % 4294967231 / 8 % lim
def drawM (lim : Int) (s : Dr) : Int × Dr :=
  let c := s.2 + 1
  let i := (c % (s.1.length : Int)).toNat
  let cell := s.1.getD i 0
  if 1000000000000000000 ≤ cell then (cell % lim, (s.1.set i (cell / lim), c)) else (hashD cell c lim, (s.1, c))
def m__law_draw : List PD → Dr → R (PD × Dr) := fun ds s => match ds with
  | [.dict _, .int lim] => if 0 < lim ∧ lim < 1073741824 ∧ 0 < s.1.length then .ok (.int (drawM lim s).1, (drawM lim s).2) else .bad
  | _ => .bad
theorem drawM_range {lim : Int} (h : 0 < lim) (s : Dr) : 0 ≤ (drawM lim s).1 ∧ (drawM lim s).1 < lim := by
  unfold drawM
  dsimp only
  split
  · exact ⟨Int.emod_nonneg _ (by omega), Int.emod_lt_of_pos _ h⟩
  · unfold hashD
    exact ⟨Int.emod_nonneg _ (by omega), Int.emod_lt_of_pos _ h⟩
theorem drawM_len (lim : Int) (s : Dr) : (drawM lim s).2.1.length = s.1.length := by
  unfold drawM
  dsimp only
  split
  · rw [List.length_set]
  · rfl
theorem pd_tok {tk : Nat → V} {G : Hp} {v : V} {x : List (PD × PD)} (h : Rp tk G v (.dict x)) : ∃ n, v = tk n := by
  rcases h with h | ⟨n, _, e⟩
  · cases h
  · exact ⟨n, e⟩
/-- behind a draw: the two draws' objects are other ones, all else stays -/
theorem draw_post {cls : Nat → Addr} {da db : Addr} {G H H' : Hp} {s s' : Dr} {d : PD} {v : V} {Q : VK} (S : Sit (Wdr cls da db) G H s) (h1 : ∀ a, a ≠ da → a ≠ db → H' a = H a) (h2 : H' da = some (.lst [.ref db, .int s'.2])) (h3 : H' db = some (.lst (s'.1.map V.int)))
    (p : PostE ⟨Wdr cls da db, G, H, E0⟩ G H (.ok (d, s')) Q) (r : Dg G v d) : Q v H' := by
  have nd : da ≠ db := S.rep.1
  have out : ∀ {a}, ¬ (Wdr cls da db).fp a → H' a = H a := fun {a} n => h1 a (fun z => n (.inl z)) fun z => n (.inr z)
  refine p v G H' ⟨fun _ _ e => e, fun a o n e => by rw [out n]; exact e, fun a e => ?_, fun _ _ e => .inl e⟩ ⟨fun a o e => ?_, S.fpG, fun a f => ?_, nd, h2, h3⟩ (.inl r)
  · by_cases z1 : a = da
    · rw [z1, h2] at e; cases e
    · by_cases z2 : a = db
      · rw [z2, h3] at e; cases e
      · rw [h1 a z1 z2] at e; exact e
  · rw [out fun f => by rw [S.fpG a f] at e; cases e]
    exact S.sub a o e
  · rcases f with z | z
    · rw [z, h2]; exact fun q => by cases q
    · rw [z, h3]; exact fun q => by cases q
theorem ixN_emod {n : Nat} {c : Int} (h : 0 < n) : ixN n (c % (n : Int)) = some (c % (n : Int)).toNat := by
  have h1 : 0 ≤ c % (n : Int) := Int.emod_nonneg _ (by omega)
  have h2 : c % (n : Int) < n := Int.emod_lt_of_pos _ (by omega)
  unfold ixN
  rw [if_pos h1, if_pos h2]
/-- data that == takes: no deeper than n -/
def Sh (n : Nat) (d : PD) : Prop := PyData.canLay0 d = true ∧ PyData.depth d ≤ n
theorem Sh.all {n : Nat} : ∀ {xs : List PD}, (∀ x ∈ xs, Sh n x) → PyData.canLayAll0 xs = true ∧ PyData.depthAll xs ≤ n
  | [], _ => ⟨rfl, Nat.zero_le _⟩
  | x :: xs, h => by
    have h1 := h x (by simp)
    have h2 := Sh.all (n := n) (xs := xs) fun y hy => h y (List.mem_cons_of_mem _ hy)
    refine ⟨?_, ?_⟩
    · show (PyData.canLay0 x && PyData.canLayAll0 xs) = true
      rw [h1.1, h2.1]; rfl
    · show max (PyData.depth x) (PyData.depthAll xs) ≤ n
      exact Nat.max_le.mpr ⟨h1.2, h2.2⟩
theorem Sh.list {n : Nat} {xs : List PD} (h : ∀ x ∈ xs, Sh n x) : Sh (n + 1) (.list xs) := ⟨(Sh.all h).1, Nat.succ_le_succ (Sh.all h).2⟩
theorem Sh.tuple {n : Nat} {xs : List PD} (h : ∀ x ∈ xs, Sh n x) : Sh (n + 1) (.tuple xs) := ⟨(Sh.all h).1, Nat.succ_le_succ (Sh.all h).2⟩
theorem Sh.int {n : Nat} (i : Int) : Sh n (.int i) := ⟨rfl, Nat.zero_le _⟩
theorem Sh.bool {n : Nat} (i : Bool) : Sh n (.bool i) := ⟨rfl, Nat.zero_le _⟩
theorem Sh.none {n : Nat} : Sh n .none := ⟨rfl, Nat.zero_le _⟩
theorem Sh.mono {n m : Nat} {d : PD} (h : Sh n d) (l : n ≤ m) : Sh m d := ⟨h.1, Nat.le_trans h.2 l⟩
theorem Sh.ok {n : Nat} {d : PD} (h : Sh n d) (l : n ≤ 64) : SeqAt.shaped d = true := by
  unfold SeqAt.shaped
  rw [h.1, decide_eq_true (Nat.le_trans h.2 l)]; rfl
theorem shaped_ints (ns : List Int) : SeqAt.shaped (.list (ns.map PyData.int)) = true :=
  (Sh.list (n := 0) fun x hx => by
    obtain ⟨i, _, rfl⟩ := List.mem_map.mp hx
    exact Sh.int i).ok (by decide)
/-- a script's start -/
def startN (ns : List Int) : List Int := if ns = [] then [0] else ns
def spStart (K : PySem.W.Frag) : Sp := fun vs H Q _ => ∃ (a : Addr) (ns : List Int), vs = [.ref a] ∧ SqL K H a (ns.map V.int) ∧
  ∀ (da db : Addr) (H' : Hp), Same H H' → H da = none → H db = none → da ≠ db → H' da = some (.lst [.ref db, .int 0]) → H' db = some (.lst ((startN ns).map V.int)) → Q (.ref da) H'
end DL

/-! DLD: the law's own def, the head's facts -/
namespace DL
open PySem PySem.Spec PyProof.Rows L2
def spLaw (K : PySem.W.Frag) : Sp := fun vs H Q _ => ∃ (a : Addr) (ns : List Int), vs = [.ref a] ∧ SqL K H a (ns.map V.int) ∧ ns.length ≤ 63 ∧ ∀ H', Q (.bl true) H'
section
variable {P : Program} {w : World} {K : PySem.W.Frag} {mg : Str → Option Value} {base : Heap} {qual : Str} {params : Arguments} {body : List Stmt} {scope : Scope} {f : Addr} {fd : FuncData} {cls : Nat → Addr}
theorem fn_law {N : List Str} {k : Nat} {s0 : Stmt} {rest : List Stmt} {fb : Env → Dr → R (Fl × Dr)} (F : FunD K "law" qual params body scope [] [] f fd) (S : FnScope N ["script"] scope) (hbd : body = s0 :: rest) (hN : 2 ≤ N.length)
    (h0 : ∀ (cdv : Value) (A : Around) (outer : List PySem.Env) (s : Shared) (H : Hp) (E : XK), Room k (A.deeper (envOfC qual scope s.heap.objs.size f cdv)) →
      PS (cxOf (L2.CX P w) P w K mg base N qual scope f cdv A outer s H E) s0 (tAsg (tCall (spStart K) [] E0 (tCons (tVar 0) tNil)) (gName 1)))
    (hr : ∀ (cdv : Value) (A : Around) (outer : List PySem.Env) (s : Shared) (H : Hp) (E : XK) (da db : Addr) (G0 H0 : Hp), Room k (A.deeper (envOfC qual scope s.heap.objs.size f cdv)) →
      DSs (cxOf (L2.CX P w) P w K mg base N qual scope f cdv A outer s H E) ⟨Wdr cls da db, G0, H0, E0⟩ [] [] rest fb)
    (hlaw : ∀ ns : List Int, 0 < ns.length → ∃ s', fb (none :: some (tokD 0) :: List.replicate (N.length - 2) none) (ns, 0) = .ok (.rt (.bool true), s')) : FnOk P w K mg base (L2.CX P w) (k + 1) f fd ["script"] (spLaw K) := by
  refine F.ok S (fun vs H Q E h => ?_) (fun cdv A outer s H vs Q E hR h => ?_)
  · obtain ⟨a, ns, rfl, _⟩ := h
    rfl
  · obtain ⟨a, ns, rfl, hS, hlen, q⟩ := h
    subst hbd
    have hb' : PSs (cxOf (L2.CX P w) P w K mg base N qual scope f cdv A outer s H E) rest (fun D σ H' => ∃ da db G0 H0, rdS ⟨Wdr cls da db, G0, H0, E0⟩ [] [] fb D σ H') := ⟨fun pins s' σ H' D I h => by
      obtain ⟨da, db, G0, H0, h⟩ := h
      exact (hr cdv A outer s H E da db G0 H0 hR).run pins s' σ H' D I h⟩
    refine ⟨_, pss_cons (h0 cdv A outer s H E hR) hb', ?_⟩
    obtain ⟨n, hn⟩ : ∃ n, N.length = n + 2 := ⟨N.length - 2, by omega⟩
    have est : L2.start N [.ref a] = some (.ref a) :: none :: List.replicate n none := by
      unfold L2.start
      rw [hn]
      show [some (V.ref a)] ++ List.replicate (n + 2 - 1) none = _
      rw [show n + 2 - 1 = n + 1 by omega, List.replicate_succ]
      rfl
    rw [est]
    refine ⟨.ref a, rfl, a, ns, rfl, hS, fun da db H' sm na nb nd ea eb => ?_⟩
    have hpos : 0 < (startN ns).length := by
      unfold startN
      split
      · decide
      · rename_i h
        exact List.length_pos_iff.mpr h
    obtain ⟨s', e⟩ := hlaw (startN ns) hpos
    refine ⟨da, db, fun _ => none, H', fun _ => none, none :: some (tokD 0) :: List.replicate n none, (startN ns, 0), ⟨⟨(fun _ _ h => by cases h), fun _ _ => rfl, fun x fx => ?_, nd, ea, eb⟩, .refl, ?_⟩, ?_⟩
    · rcases fx with z | z
      · rw [z, ea]; exact fun h => by cases h
      · rw [z, eb]; exact fun h => by cases h
    · refine ⟨by simp, fun i d e _ => ?_, fun i d e m => by simp at m, fun i j p d e m => by simp at m⟩
      match i, e with
      | 0, e => cases e
      | 1, e =>
        cases e
        exact ⟨.ref da, rfl, .inr ⟨0, rfl, rfl⟩⟩
      | i + 2, e =>
        have e' : (List.replicate n (none : Option PD))[i]? = some (some d) := e
        rw [List.getElem?_replicate] at e'
        split at e' <;> cases e'
    · rw [show n = N.length - 2 by omega, e]
      intro v G' H'' g st rv
      have ev : v = .bl true := (rv.dg (isD_tok rfl)).of_bl
      rw [ev]
      exact q H''
end
theorem law_noX {P : Program} {w : World} {K : PySem.W.Frag} {mg : Str → Option Value} {base : Heap} {k : Nat} {f : Addr} {fd : FuncData} {ps : List Str} (F : FnOk P w K mg base (L2.CX P w) k f fd ps (spLaw K)) : FnOk P w K mg base CX0 k f fd ps (spLaw K) := by
  refine ⟨F.len, fun A outer s H args us vs Q E hr he hb hv hs => ?_⟩
  refine codeAny_mono (F.run A outer s H args us vs Q E0 hr he hb hv hs) fun r s' q => ?_
  cases r with
  | ok fl =>
    cases fl with
    | ret u => exact q
    | _ => exact q
  | error e =>
    obtain ⟨_, _, _, _, _, _, _, _, _, _, _, _, z⟩ := q
    exact z.elim
/-! ### the head -/
def excN : Nat → Str
  | 0 => "BadThings"
  | 1 => "BadNumber"
  | 2 => "BadPoints"
  | 3 => "BadText"
  | _ => "NotFound"
def clsK (K : PySem.W.Frag) (c : Nat) : Addr := He.ga K (excN c)
def freeFa : List He.Fa := [.free "len", .free "isinstance", .free "all", .free "sum", .free "sorted", .free "set", .free "max", .free "min", .free "range", .free "zip", .free "enumerate", .free "list", .free "tuple", .free "abs", .free "str", .free "int", .free "bool"]
theorem free_mk {K : PySem.W.Frag} {h : Heap} {mg : Str → Option Value} (X : K.In h) (G : h.Ns mainGlobals mg) (c : ∀ f ∈ freeFa, f.ok K = true) : Free mg := by
  have z : ∀ x : Str, He.Fa.free x ∈ freeFa → mg x = none := fun x hx => He.free_ok X G (c _ hx)
  constructor <;> exact z _ (by simp [freeFa])
theorem exc_mk {K : PySem.W.Frag} {h : Heap} {mg : Str → Option Value} {c : Nat} {x : Str} (X : K.In h) (G : h.Ns mainGlobals mg) (e : x = excN c) (h1 : (He.Fa.glo x).ok K = true) (h2 : (He.Fa.exc x).ok K = true) : ExcF K mg (clsK K) c x := by
  subst e
  obtain ⟨a, b, d, t⟩ := He.exc_ok h2
  exact ⟨a, He.glo_ok X G h1, b, d, t⟩
theorem int_mk {K : PySem.W.Frag} {h : Heap} {mg : Str → Option Value} {x : Str} {i : Int} (X : K.In h) (G : h.Ns mainGlobals mg) (c : (He.Fa.int x i).ok K = true) : ∃ t, mg x = some (.int i t) := He.int_ok X G c
theorem str_mk {K : PySem.W.Frag} {h : Heap} {mg : Str → Option Value} {x z : Str} (X : K.In h) (G : h.Ns mainGlobals mg) (c : (He.Fa.str x z).ok K = true) : ∃ t, mg x = some (.str z t) := He.str_ok X G c
end DL

/-! DLE: a chain of three comparisons -/
namespace DL
open PySem PySem.Spec PyProof.Rows L2
section
variable {X : Cx} {B : Bs} {O : List Nat}
def tChain3 (r r' r2 : R2) (ta tb tc td : TE) : TE := fun σ H Q => ta σ H fun x H1 => tb σ H1 fun y H2 => r x y H2 fun z H3 => ∃ k, z = .bl k ∧
  (if k = true then tc σ H3 fun w' H4 => r' y w' H4 fun z' H5 => ∃ k', z' = .bl k' ∧ (if k' = true then td σ H5 fun u' H6 => r2 w' u' H6 Q else Q (.bl false) H5) else Q (.bl false) H3)
theorem pt_chain3 {a b c e : Expr} {ta tb tc te : TE} {pos : Pos} {op op' op2 : CmpOp} {r r' r2 : R2} (ho : OpR X (compareOp op) r) (ho' : OpR X (compareOp op') r') (ho2 : OpR X (compareOp op2) r2) (ha : PE X a ta) (hb : PE X b tb) (hc : PE X c tc) (he : PE X e te)
    (hm : lastMarks [op, op', op2] [b, c, e] = false := by with_unfolding_all rfl) : PT X (.Compare a [op, op', op2] [b, c, e] pos) (tTest (tChain3 r r' r2 ta tb tc te)) := by
  refine ⟨fun pins s σ H Q I h => ?_⟩
  refine isTrue_chain (thn (ha.run pins s σ H _ I h) fun v s1 ⟨x, H1, I1, r1, q1⟩ => test_link (thn (hb.run pins s1 σ H1 _ I1 q1) fun u s2 ⟨y, H2, I2, r2, q2⟩ =>
    thn (ho pins s2 σ H2 x y v u _ I2 r1 r2 q2) fun d s3 ⟨z, H3, I3, r3, k, e, q3⟩ => ?_)) hm
  subst e
  cases r3
  refine wpAny_truthy_bool ?_
  cases k with
  | false =>
    obtain ⟨k', e', q'⟩ := q3
    cases e'
    exact ite_ff ⟨H3, I3, q'⟩
  | true =>
    refine ite_tt (test_link (thn (hc.run pins s3 σ H3 _ I3 q3) fun w' s4 ⟨z', H4, I4, r4, q4⟩ => thn (ho' pins s4 σ H4 y z' u w' _ I4 r2 r4 q4) fun d' s5 ⟨z2, H5, I5, r5, k2, e2, q5⟩ => ?_))
    subst e2
    cases r5
    refine wpAny_truthy_bool ?_
    cases k2 with
    | false =>
      obtain ⟨k', e', q'⟩ := q5
      cases e'
      exact ite_ff ⟨H5, I5, q'⟩
    | true =>
      refine ite_tt (test_last (thn (he.run pins s5 σ H5 _ I5 q5) fun w2 s6 ⟨z3, H6, I6, r6, q6⟩ => thn (ho2 pins s6 σ H6 z' z3 w' w2 _ I6 r4 r6 q6) fun d3 s7 ⟨z4, H7, I7, r7, k3, e3, q7⟩ => ?_))
      subst e3
      cases r7
      exact wpAny_truthy_bool ⟨H7, I7, q7⟩
def cChain3 {d : Type} (f g h : PD → PD → R PD) (a b c e : Env → d → R (PD × d)) : Env → d → R (PD × d) := fun ρ s =>
  bnd (a ρ s) fun x s1 => bnd (b ρ s1) fun y s2 => if isD x && isD y then
    bnd (lft (isOk (f x y)) s2) fun z s3 => match z with
      | .bool true => bnd (c ρ s3) fun w s4 => if isD w then
          bnd (lft (isOk (g y w)) s4) fun z' s5 => match z' with
            | .bool true => bnd (e ρ s5) fun u s6 => if isD u then lft (isOk (h w u)) s6 else .bad
            | .bool false => .ok (.bool false, s5)
            | _ => .bad
          else .bad
      | .bool false => .ok (.bool false, s3)
      | _ => .bad
    else .bad
theorem rd_chain3 {f g h' : PD → PD → R PD} {fa fb fc fe : Mx B PD} {σ : St} {H : Hp} {Q : VK} (h : rdE B O (cChain3 f g h' fa fb fc fe) σ H Q) : tChain3 (rdO f) (rdO g) (rdO h') (rdE B O fa) (rdE B O fb) (rdE B O fc) (rdE B O fe) σ H Q := by
  obtain ⟨G, ρ, s, a, p⟩ := h
  refine rdE.then a p fun x G1 H1 dx s1 a1 g1 rx p1 => ?_
  refine rdE.then a1 p1 fun y G2 H2 dy s2 a2 g2 ry p2 => ?_
  by_cases hd : (isD dx && isD dy) = true
  · rw [if_pos hd] at p2
    have h' := hd
    rw [Bool.and_eq_true] at h'
    have hy := ry.dg (isD_tok h'.2)
    refine ⟨G2, dx, dy, a2.sit.sub, (rx.mono g2.g).dg (isD_tok h'.1), hy, PostD.isOk (PostD.ofK (r := isOk (f dx dy)) a2.sit (isOk_nx _) ?_ fun d e v G3 H3 g3 S3 rv => ?_)⟩
    · intro z; rw [z] at p2; exact p2
    · rw [e] at p2
      cases d with
      | bool b =>
        refine ⟨b, rv.of_bl, ?_⟩
        cases b with
        | true =>
          refine rdE.then (a2.step g3 S3) (PostE.mono g3 p2) fun w G4 H4 dw s4 a4 g4 rw' p4 => ?_
          by_cases hw : isD dw = true
          · rw [if_pos hw] at p4
            have hww := rw'.dg (isD_tok hw)
            refine ⟨G4, dy, dw, a4.sit.sub, (hy.mono g3.g).mono g4.g, hww, PostD.isOk (PostD.ofK (r := isOk (g dy dw)) a4.sit (isOk_nx _) ?_ fun d' e' v' G5 H5 g5 S5 rv' => ?_)⟩
            · intro z; rw [z] at p4; exact p4
            · rw [e'] at p4
              cases d' with
              | bool b' =>
                refine ⟨b', rv'.of_bl, ?_⟩
                cases b' with
                | true =>
                  refine rdE.then (a4.step g5 S5) (PostE.mono g5 p4) fun u G6 H6 du s6 a6 g6 ru p6 => ?_
                  by_cases hu : isD du = true
                  · rw [if_pos hu] at p6
                    exact ⟨G6, dw, du, a6.sit.sub, (hww.mono g5.g).mono g6.g, ru.dg (isD_tok hu), (PostD.of a6.sit p6 (isOk_nx _)).isOk⟩
                  · rw [if_neg hu] at p6; exact p6.elim
                | false => exact p4 _ G5 H5 g5 S5 (.inl (.bl false))
              | _ => exact p4.elim
          · rw [if_neg hw] at p4; exact p4.elim
        | false => exact p2 _ G3 H3 g3 S3 (.inl (.bl false))
      | _ => exact p2.elim
  · rw [if_neg hd] at p2; exact p2.elim
theorem dt_chain3 {op op' op2 : CmpOp} {f g h : PD → PD → R PD} {a b c e : Expr} {fa fb fc fe : Mx B PD} {pos : Pos} (ho : DOp X (compareOp op) f) (ho' : DOp X (compareOp op') g) (ho2 : DOp X (compareOp op2) h) (ha : DE X B O a fa) (hb : DE X B O b fb) (hc : DE X B O c fc) (he : DE X B O e fe)
    (hm : lastMarks [op, op', op2] [b, c, e] = false := by with_unfolding_all rfl) : DT X B O (.Compare a [op, op', op2] [b, c, e] pos) (cTest (cChain3 f g h fa fb fc fe)) :=
  PT.imp (pt_chain3 ho ho' ho2 ha hb hc he hm) fun σ H Q h => by
    obtain ⟨G, ρ, s, a, p⟩ := rd_test h
    exact rd_chain3 ⟨G, ρ, s, a, p⟩
end
end DL

/-! DLF: a caught error kept as a value -/
namespace DL
open PySem PySem.Spec PyProof.Rows L2
/-- an exception object of the class cls at a -/
def XO (cls : Value) (a : Addr) : HO := .ext fun h => ∃ (oe : Obj) (vs : Array Value), h.get? a = some oe ∧ Zc cls none oe ∧ oe.data = .fields vs
theorem xo_ok {P : Program} {w : World} {H : Hp} {h : Heap} {a : Addr} {cls : Value} {oe : Obj} {vs : Array Value} (e : h.get? a = some oe) (z : Zc cls none oe) (d : oe.data = .fields vs) : ObjOk P w H h a (XO cls a) :=
  ⟨⟨oe, vs, e, z, d⟩, ⟨oe, e⟩, fun _ _ ⟨o, v, q, r⟩ k => ⟨o, v, k o q, r⟩⟩
section
variable {X : Cx} {pins : List (Addr × Obj)} {σ : St} {H : Hp} {s : Shared}
/-- an object that stands in the heap is tracked from now on -/
theorem Inv.track {a : Addr} {cls : Value} {oe : Obj} {vs : Array Value} (I : Inv X pins σ H s) (e : s.heap.get? a = some oe) (z : Zc cls none oe) (d : oe.data = .fields vs) (na : H a = none) (new : X.s_0.heap.get? a = none) (nL : a ≠ X.env.locals) (np : ∀ p ∈ X.pn ++ pins, p.1 ≠ a) : Inv X pins σ (upd H a (XO cls a)) s := by
  refine ⟨I.ok, I.os, I.bare, ?_, I.loc, I.cell, ?_, ?_, ?_, ?_, I.len⟩
  · refine ⟨I.base.keep, I.base.slot, fun b o q n x => ?_, I.base.there, fun b xs q => ?_, fun b o u q => ?_, fun b ps q => ?_⟩
    · rw [upd_ne fun z => by rw [z, new] at q; cases q]
      exact I.base.free b o q n x
    · have h := I.base.tups b xs q
      rw [upd_ne fun z => by rw [z, na] at h; cases h]
      exact h
    · have h := I.base.frzs b o u q
      rw [upd_ne fun z => by rw [z, na] at h; cases h]
      exact h
    · obtain ⟨more, h⟩ := I.base.tbls b ps q
      exact ⟨more, by rw [upd_ne fun z => by rw [z, na] at h; cases h]; exact h⟩
  · rw [upd_ne (Ne.symm nL)]; exact I.free
  · intro x c hc
    obtain ⟨v, hv⟩ := I.cell x c hc
    have : c ≠ a := fun q => by
      subst q
      obtain ⟨o, h1, h2⟩ := hv
      rw [e] at h1
      cases h1
      rw [d] at h2
      cases h2
    rw [upd_ne this]
    exact I.freeC x c hc
  · intro p hp
    have h := I.pin p hp
    rw [upd_ne (np p hp)]
    exact h
  · intro b o q
    by_cases hb : b = a
    · subst hb
      rw [upd_same] at q
      cases q
      exact xo_ok e z d
    · rw [upd_ne hb] at q
      exact (I.hok b o q).stay (fun _ _ _ q => q) (fun c q => by rw [upd_ne (ne_of_none q na)]; exact q) fun c xs q => by rw [upd_ne (ne_of_none q na)]; exact q
end
section
variable {X : Cx} {x n m : Str} {c : Value} {i j : Nat} {body : List Stmt} {np p1 p2 p3 pos pos' : Pos} {tb : WX → TS}
/-- what is wished of an error of the body: its class is one that the clause takes; behind it slot j holds it -/
def wKeep (K : PySem.W.Frag) (n : Nat) (c : Value) (i j : Nat) (D : Ends) : WX := fun cls d σ H =>
  PySem.W.exmOne K cls c = some true ∧ d = none ∧ (σ.length = n → ∀ a, H a = none → D.nx (((σ.set i (some (.ref a))).set j (some (.ref a))).set i none) (upd H a (XO cls a)))
/-- try: body / except x as n: m = n -/
theorem ps_try_keep (hex0 : X.ex = []) (hs : X.stack = X.env :: X.outer) (hf : X.env.frame = some X.env.locals) (hN : X.N.Nodup) (hi : X.N[i]? = some n) (hj : X.N[j]? = some m) (hln : X.env.kindOf n = some .local) (hlm : X.env.scope.names.lookup m = some .local) (hc : Names X x c)
    (hvn : Vis X.env.scope n) (hd1 : (n == ("__debug__" : Str)) = false) (hd2 : (n == ("__classdict__" : Str)) = false) (hsw : swapsWith (.Name n p2) (some (.Name m p1)) p3.line X.env = pure false)
    (hb : ∀ (W : WX) (pn : List (Addr × Obj)) (xe : Value → Shared → Prop), Takes (X.tr pn xe) W → PassesOwn (model X.prog X.w) X.A X.env xe → PSs (X.tr pn xe) body (tb W)) :
    PS X (.Try body [.ExceptHandler (some (.Name x np)) (some n) [.Assign [.Name m p1] (.Name n p2) p3] pos'] [] [] pos) (fun D σ H => tb (wKeep X.K X.N.length c i j D) D σ H) := by
  refine ⟨fun pins s σ H D I h => ?_⟩
  have ok := I.ok
  have hfr : X.A.frames = some (X.env :: X.outer) := by rw [ok.frames, hs]
  have hiσ : i < X.N.length := (List.getElem?_eq_some_iff.mp hi).1
  refine wpAny_Try_except ?_
  refine wpAny_mono ((hb (wKeep X.K X.N.length c i j D) (X.pn ++ pins) (fun e s₁ => wpAny (model X.prog X.w) X.A (noteFrame e X.env) (fun _ s₂ => wpAny (model X.prog X.w) X.A (setFlight e none) (fun _ s₃ =>
    wpAny (model X.prog X.w) X.A (handleBy e X.env [.ExceptHandler (some (.Name x np)) (some n) [.Assign [.Name m p1] (.Name n p2) p3] pos']) (SP X pins D) X.xe s₃) X.xe s₂) X.xe s₁) (fun u s' xx => ?_) PassesOwn.looking).run [] s σ H D (I.toTry _) h) (fun f s1 hsp => ?_) (fun e s1 he => he)
  · obtain ⟨a, B, sI, pins', σ', H', cls, d, rfl, J', nb, up, sky, na, os, ag, hex, hdn, hfin⟩ := xx
    subst hdn
    have J : Inv X pins σ' H' sI := J'.ofTry ok
    have sky' : Sky B (X.env :: X.outer) a (Zc cls none) X.env.locals s'.heap := by rw [← hs]; exact sky
    show wpAny (model X.prog X.w) X.A (noteFrame (.ref a) X.env) _ _ _
    refine Sky.land Zc.steady hfr hf sky' fun h3 fl3 up3 => ?_
    have J3 : Inv X pins σ' H' { s' with heap := h3 } := J.landed nb fl3.1 (up.trans up3) os ag
    obtain ⟨oe3, vs3, he3, hz3, hd3⟩ := fl3.there
    -- it is no frame
    have nfr : a ∉ frs (X.env :: X.outer) := fun hm => by
      obtain ⟨_, o', e', hnf⟩ := fl3.2.2.1.mem hm
      rw [he3] at e'
      cases e'
      exact hnf _ hd3
    have nL : a ≠ X.env.locals := fun z => nfr (List.mem_filterMap.mpr ⟨X.env, List.mem_cons_self, by rw [hf, z]⟩)
    have nF : a ∉ X.fs := fun hm => by
      obtain ⟨e, he, q⟩ := List.mem_filterMap.mp hm
      exact nfr (List.mem_filterMap.mpr ⟨e, List.mem_cons_of_mem _ he, q⟩)
    -- it is new
    have newI : sI.heap.get? a = none := by
      cases q : sI.heap.get? a with
      | none => rfl
      | some o =>
        have := nb a o q (by rw [hs]; exact nfr)
        rw [fl3.2.1] at this
        cases this
    have new0 : X.s_0.heap.get? a = none := by
      cases q : X.s_0.heap.get? a with
      | none => rfl
      | some o =>
        obtain ⟨o', q'⟩ := J.base.there a o q (by rw [hex0]; simp)
        rw [newI] at q'
        cases q'
    have npin : ∀ p ∈ X.pn ++ pins, p.1 ≠ a := fun p hp z => by
      have := (J.pin p hp).1
      rw [z, newI] at this
      cases this
    have S3 := J3.suite he3 hd3 na nL nF
    refine wpAny_handleBy_cons (codeAny_handlers_test ?_) (by intro q; cases q)
    have LT : PySem.W.Looks (model X.prog X.w) h3 (typeOf (.ref a)) cls := fun A Q E s k q => wpAny_typeOf_ref (k _ _ he3) (by rw [hz3.1]; exact q)
    have LM := PySem.W.exm_one (M := model X.prog X.w) (J3.kIn) LT hex
    have test : ∀ {Q : Value → Shared → Prop} {E : Value → Shared → Prop}, Q c { s' with heap := h3 } → wpAny (model X.prog X.w) (X.A.mark (some (.ref a))) (eval (.Name x np) X.env) Q E { s' with heap := h3 } := fun {Q E} q => by
      obtain ⟨hg, hdbg, hm | ⟨hm, hv, hnn⟩⟩ := hc
      · exact ld_glob (X := X.suite a ((a, oe3) :: (X.pn ++ pins))) S3 hg hm q hdbg
      · exact ld_blt (X := X.suite a ((a, oe3) :: (X.pn ++ pins))) S3 hg hm hv q hnn hdbg
    refine test (LM.here ?_)
    refine codeAny_handlers_suite_as ?_
    refine HandSPX.lands_againZ fl3 fun h4 fl4 up4 => ?_
    have J4 : Inv X pins σ' H' { s' with heap := h4 } := J.landed nb fl4.1 ((up.trans up3).trans up4) os ag
    obtain ⟨oe4, vs4, he4, hz4, hd4⟩ := fl4.there
    have S4 := J4.suite he4 hd4 na nL nF
    refine store_ok (X := X.suite a ((a, oe4) :: (X.pn ++ pins))) (v := .ref a) S4 hN hi (.inl hln) rfl (fun s5 S5 => ?_) (.inr hln)
    -- the suite: m = n
    have su : PSs (X.suite a ((a, oe4) :: (X.pn ++ pins))) [.Assign [.Name m p1] (.Name n p2) p3] (fun D σ H => tVar i σ H fun v H1 => D.nx (σ.set j (some v)) H1) :=
      PSs.imp (pss_cons (ps_set (X := X.suite a ((a, oe4) :: (X.pn ++ pins))) hN hj (.inl hlm) (pe_var (X := X.suite a ((a, oe4) :: (X.pn ++ pins))) hi hvn hd1 hd2) hsw (.inr hlm)) pss_nil) fun D σ H h => h
    have hget : (σ'.set i (some (V.ref a)))[i]? = some (some (V.ref a)) := by
      rw [List.getElem?_set_self (by rw [J.len]; exact hiσ)]
    refine wpAny_mono (su.run [] s5 _ H' { nx := fun σ6 H6 => σ6 = (σ'.set i (some (.ref a))).set j (some (.ref a)) ∧ H6 = H', rt := fun _ _ => False } S5 ⟨_, hget, rfl, rfl⟩) (fun f s6 hsp => ?_) (fun _ _ z => False.elim z)
    cases f with
    | next =>
      obtain ⟨σ6, H6, S6, rfl, rfl⟩ := hsp
      have hp := S6.pin (a, oe4) (List.mem_append.mpr (.inl List.mem_cons_self))
      have J6 : Inv X pins _ _ s6 := S6.unsuite ok
      have J7 := Inv.track J6 hp.1 hz4 hd4 na new0 nL npin
      exact gone_ok J7 hN hi hln fun s7 J8 => ⟨_, _, J8, hfin J.len a na⟩
    | brk => obtain ⟨_, _, _, z⟩ := hsp; exact z.elim
    | cont => obtain ⟨_, _, _, z⟩ := hsp; exact z.elim
    | ret u => obtain ⟨_, _, _, _, _, z⟩ := hsp; exact z.elim
  · cases f with
    | next =>
      obtain ⟨σ', H', J', q⟩ := hsp
      exact wpAny_execs_nil ⟨σ', H', J'.ofTry ok, q⟩
    | brk =>
      obtain ⟨σ', H', J', q⟩ := hsp
      exact ⟨σ', H', J'.ofTry ok, q⟩
    | cont =>
      obtain ⟨σ', H', J', q⟩ := hsp
      exact ⟨σ', H', J'.ofTry ok, q⟩
    | ret u =>
      obtain ⟨v, σ', H', J', r, q⟩ := hsp
      exact ⟨v, σ', H', J'.ofTry ok, r, q⟩
end
end DL

/-! DLG: isinstance of a kept error; a def that names it -/
namespace DL
open PySem PySem.Spec PyProof.Rows L2
/-- isinstance(x, c), x a kept error -/
def rIsX (K : PySem.W.Frag) : List V → Hp → VK → Prop := fun xs H Q => ∃ (a D : Addr) (c : V) (cv : Value) (b : Bool), xs = [.ref a, c] ∧ H a = some (XO (.ref D) a) ∧ L2.ExcC K D ∧ ClsV c cv ∧ PySem.W.kitOne K (.ref D) cv = some b ∧ Q (.bl b) H
theorem call_isX {X : Cx} : CallR X (.builtin "isinstance") (rIsX X.K) := by
  intro pins s σ H xs us Q I r h
  obtain ⟨a, D, c, cv, b, rfl, ha, C, hcv, e, q⟩ := h
  cases r with
  | cons rx rr =>
    cases rr with
    | cons rt rr =>
      cases rr
      cases rx
      have ec := hcv.eq rt
      subst ec
      obtain ⟨⟨oe, vs, hget, hz, hv⟩, _⟩ := I.hok a _ ha
      have J : PySem.W.InstAt s.heap a oe D none := by
        obtain ⟨oc, od, oda, osl⟩ := oe
        obtain ⟨h1, h2⟩ := hz
        dsimp only at h1 h2 hv
        subst h1 h2 hv
        exact ⟨hget, rfl, rfl, trivial⟩
      exact PySem.W.kia_one (PySem.W.handS_kitx_exc C.hg C.hk C.hs C.hd C.ha C.hn C.ht C.hm) I.kIn J e (fun z => nomatch z) fun tk => ⟨.bl b, H, I.kept (t' := tk) fun _ _ z => z, rfl, q⟩
/-- what is known of the five classes; alarm: their common one -/
structure ErrK (K : PySem.W.Frag) (mg : Str → Option Value) (cls : Nat → Addr) : Prop where
  ec : ∀ c, c < 5 → L2.ExcC K (cls c)
  kit : ∀ c j, c < 5 → j < 5 → PySem.W.kitOne K (.ref (cls c)) (.ref (cls j)) = some (decide (c = j))
  al : ∃ al, mg "AlarmError" = some (.ref al) ∧ ∀ c, c < 5 → PySem.W.kitOne K (.ref (cls c)) (.ref al) = some true ∧ PySem.W.exmOne K (.ref (cls c)) (.ref al) = some true
  ve : ∀ c, c < 5 → PySem.W.kitOne K (.ref (cls c)) (.type "ValueError") = some true
  nve : mg "ValueError" = none
/-- the world of a def with a kept error at a: the state is the number of its class -/
def Wx (cls : Nat → Addr) (a : Addr) : Wd where
  d := Nat
  fp := fun b => b = a
  rep := fun c _ H => H a = some (XO (.ref (cls c)) a) ∧ c < 5
  tk := fun _ => .ref a
  cls := cls
  keep := fun h _ k => ⟨k _ _ rfl h.1, h.2⟩
def isTok : PD → Bool
  | .dict [(.int (.ofNat _), .none)] => true
  | _ => false
/-- isinstance(x, class) of the token: f tells by the number -/
def cIsE (f : Nat → Bool) (a : Env → Nat → R (PD × Nat)) : Env → Nat → R (PD × Nat) := fun ρ s => bnd (a ρ s) fun x s1 => if isTok x = true then .ok (.bool (f s1), s1) else .bad
section
variable {X : Cx} {O : List Nat} {cls : Nat → Addr} {a0 : Addr} {G0 H0 : Hp} {E : XK}
theorem isTok_some {d : PD} (h : isTok d = true) : ∃ n, d = tokD n := by
  unfold isTok at h
  split at h
  · exact ⟨_, rfl⟩
  · cases h
theorem rp_tok {tk : Nat → V} {G : Hp} {v : V} {d : PD} (r : Rp tk G v d) (h : isTok d = true) : ∃ n, v = tk n := by
  obtain ⟨n, rfl⟩ := isTok_some h
  rcases r with r | ⟨k, e, q⟩
  · cases r
  · exact ⟨k, q⟩
theorem de_isE {f : Nat → Bool} {x : Str} {cv : V} {cu : Value} {a : Expr} {fa : Env → Nat → R (PD × Nat)} {p p2 pos : Pos} (K5 : ∀ c, c < 5 → L2.ExcC X.K (cls c) ∧ PySem.W.kitOne X.K (.ref (cls c)) cu = some (f c)) (hcl : ClsV cv cu) (hm : X.mg "isinstance" = none) (hx : PE X (.Name x p2) (tC cv)) (ha : DE X ⟨Wx cls a0, G0, H0, E⟩ O a fa) (hg : Gl X "isinstance" := by rfl)
    (hv : bootBuiltins "isinstance" = some (.builtin "isinstance") := by decide +kernel) (he : starEach [a, .Name x p2] X.env = (false, eval a X.env) :: starEach [.Name x p2] X.env := by rfl)
    (hpl : (backTo pos (starEach [.Name x p2] X.env)).any (·.1) = false := by rfl) : DE X ⟨Wx cls a0, G0, H0, E⟩ O (.Call (.Name "isinstance" p) [a, .Name x p2] [] pos) (cIsE f fa) :=
  PE.imp (pe_callB call_isX hg hm hv (pa_cons ha (pa_cons hx pa_nil) he) (by decide) (by decide) he hpl) fun σ H Q h => by
    obtain ⟨G, ρ, s, a, p⟩ := h
    refine rdE.then a p fun v G1 H1 dx s1 a1 g1 rx p1 => ?_
    by_cases hd : isTok dx = true
    · rw [if_pos hd] at p1
      obtain ⟨n, e⟩ := rp_tok rx hd
      have hr := a1.sit.rep
      obtain ⟨k1, k2⟩ := K5 s1 hr.2
      exact ⟨a0, cls s1, cv, cu, f s1, by rw [e]; rfl, hr.1, k1, hcl, k2, p1.done a1.sit (.inl (.bl _))⟩
    · rw [if_neg hd] at p1; exact p1.elim
end
/-- the promise of a def that names a kept error -/
def spX (cls : Nat → Addr) (nm : Nat → Str) : Sp := fun vs H Q _ => ∃ (a : Addr) (c : Nat), vs = [.ref a] ∧ c < 5 ∧ H a = some (XO (.ref (cls c)) a) ∧ ∀ H', (∀ b o, b ≠ a → H b = some o → H' b = some o) → (∀ b, H' b = none → H b = none) → Q (.str (nm c)) H'
section
variable {P : Program} {w : World} {K : PySem.W.Frag} {mg : Str → Option Value} {base : Heap} {x qual : Str} {params : Arguments} {body : List Stmt} {scope : Scope} {f : Addr} {fd : FuncData} {cls : Nat → Addr}
/-- A DEF THAT NAMES A KEPT ERROR, by its body -/
theorem fn_err {N ps : List Str} {k : Nat} {nm : Nat → Str} {fb : Env → Nat → R (Fl × Nat)} (F : FunD K x qual params body scope [] [] f fd) (S : FnScope N ps scope) (hn : ps.length = 1)
    (hbody : ∀ (cdv : Value) (A : Around) (outer : List PySem.Env) (s : Shared) (H : Hp) (E : XK) (a : Addr) (G : Hp), Room k (A.deeper (envOfC qual scope s.heap.objs.size f cdv)) →
      DSs (cxOf (L2.CX P w) P w K mg base N qual scope f cdv A outer s H E) ⟨Wx cls a, G, H, E0⟩ [] [] body fb)
    (hfb : ∀ c, c < 5 → ∃ s', fb (some (tokD 0) :: List.replicate (N.length - 1) none) c = .ok (.rt (.str (nm c)), s')) : FnOk P w K mg base (L2.CX P w) (k + 1) f fd ps (spX cls nm) := by
  refine F.ok S (fun vs H Q E h => ?_) (fun cdv A outer s H vs Q E hr h => ?_)
  · obtain ⟨a, c, rfl, _⟩ := h
    rw [hn]; rfl
  · obtain ⟨a, c, rfl, hc, ha, q⟩ := h
    let G : Hp := fun _ => none
    have sit : Sit (Wx cls a) G H c := by
      refine ⟨fun b o z => (by cases (show (none : Option HO) = some o from z)), fun _ _ => rfl, fun b e z => ?_, ⟨ha, hc⟩⟩
      rw [show b = a from e, ha] at z
      cases z
    have r : RpAll (Wx cls a).tk G [V.ref a] [tokD 0] := .cons (.inr ⟨0, rfl, rfl⟩) .nil
    refine ⟨_, hbody cdv A outer s H E a G hr, G, startD N [tokD 0], c, ⟨sit, .refl, r.begin_ N⟩, ?_⟩
    obtain ⟨s', e⟩ := hfb c hc
    have e0 : startD N [tokD 0] = some (tokD 0) :: List.replicate (N.length - 1) none := rfl
    rw [e0, e]
    intro v G' H' g st rv
    have hv : v = .str (nm c) := by
      rcases rv with rv | ⟨n, e, _⟩
      · cases rv; rfl
      · cases e
    rw [hv]
    exact q H' (fun b o hb hbo => g.h b o (fun z => hb z) hbo) g.dom
end
end DL

/-! DLH: try: .. except AlarmError as e: caught = e; return .. if caught is None else _law_error(caught) -/
namespace DL
open PySem PySem.Spec PyProof.Rows L2
def sTry {d : Type} (fb : Env → d → R (Fl × d)) (j : Nat) (fe : Env → d → R (PD × d)) (nm : Nat → Str) : Env → d → R (Fl × d) := fun ρ s => match fb ρ s with
  | .ok (.nx ρ', s') => match ρ'[j]? with
    | some (some .none) => bnd (fe ρ' s') fun v s2 => .ok (.rt v, s2)
    | _ => .bad
  | .exc c => if c < 5 then .ok (.rt (.str (nm c)), s) else .bad
  | _ => .bad
section
variable {X : Cx} {cls : Nat → Addr} {tk : Nat → V} {G0 H0 : Hp} {E : XK}
theorem dss_try {body : List Stmt} {e1 : Expr} {fb : Env → Unit → R (Fl × Unit)} {fe : Env → Unit → R (PD × Unit)} {nm : Nat → Str} {i j k : Nat} {f : Addr} {fd : FuncData} {ps : List Str} {al : Addr} {np p1 p2 p3 p4 p5 p6 p7 p8 pos pos' posr posi : Pos} {cst : Expr}
    (sb0 : Sub G0 H0) (hex0 : X.ex = []) (hs : X.stack = X.env :: X.outer) (hf : X.env.frame = some X.env.locals) (hN : X.N.Nodup) (hi : X.N[i]? = some ("e" : Str)) (hj : X.N[j]? = some ("caught" : Str)) (hij : i ≠ j) (hln : X.env.kindOf "e" = some .local) (hlm : X.env.scope.names.lookup ("caught" : Str) = some .local)
    (hal : X.mg "AlarmError" = some (.ref al)) (hgl : Gl X "AlarmError") (hexm : ∀ c, c < 5 → PySem.W.exmOne X.K (.ref (cls c)) (.ref al) = some true) (hsw : swapsWith (.Name "e" p2) (some (.Name "caught" p1)) p3.line X.env = pure false)
    (hb : ∀ (pn : List (Addr × Obj)) (xe : Value → Shared → Prop) (E' : XK), Takes (X.tr pn xe) (fun c d _ H => E' c d H) → PassesOwn (model X.prog X.w) X.A X.env xe → DSs (X.tr pn xe) ⟨Wp cls tk, G0, H0, E'⟩ [] [] body fb)
    (he : DE X ⟨Wp cls tk, G0, H0, E⟩ [] e1 fe) (F : FnOk X.prog X.w X.K X.mg X.base (L2.CX X.prog X.w) k f fd ps (spX cls nm)) (hr : Room k X.A) (hmE : X.mg "_law_error" = some (.ref f)) (hk : PySem.W.keepIn X.K (.ref f) = true) (hbd : Binds X.K fd ps []) (hgE : Gl X "_law_error")
    (hpn : PE X cst (tC .non)) (hmk : behindInMarks .Is cst = false) (hst : starEach [.Name "caught" p5] X.env = (false, eval (.Name "caught" p5) X.env) :: starEach [] X.env) (hpl : (backTo p6 (starEach [] X.env)).any (·.1) = false) :
    DSs X ⟨Wp cls tk, G0, H0, E⟩ [] [] [.Try body [.ExceptHandler (some (.Name "AlarmError" np)) (some "e") [.Assign [.Name "caught" p1] (.Name "e" p2) p3] pos'] [] [] pos, .Return (some (.IfExp (.Compare (.Name "caught" p4) [.Is] [cst] p8) e1 (.Call (.Name "_law_error" p7) [.Name "caught" p5] [] p6) posi)) posr] (sTry fb j fe nm) := by
  have hv : Vis X.env.scope "caught" := .inl hlm
  have pc : ∀ {p : Pos}, PE X (.Name "caught" p) (tVar j) := fun {p} => pe_var hj hv
  have ret := ps_ret (pos := posr) (pe_ifExp (pos := posi) (pt_cmpR (pos := p8) op_isN (pc (p := p4)) hpn hmk) he (pe_call (p := p7) F hr hgE hmE hk hbd .nil passL (pa_cons (pc (p := p5)) pa_nil hst) (by decide) hst hpl))
  have trY := ps_try_keep (X := X) (body := body) (tb := fun W => rdS ⟨Wp cls tk, G0, H0, fun c d H => ∀ σ, W c d σ H⟩ [] [] fb) (np := np) (p1 := p1) (p2 := p2) (p3 := p3) (pos := pos) (pos' := pos') (c := .ref al) (x := "AlarmError") hex0 hs hf hN hi hj hln hlm ⟨hgl, by decide, .inl hal⟩ (.inl hln) (by decide) (by decide) hsw
    fun W pn xe tk' po => hb pn xe _ (tk'.imp fun c d σ H h => h σ) po
  refine PSs.imp (pss_cons trY (pss_cons ret pss_nil)) fun D σ H h => ?_
  obtain ⟨G, ρ, s, a, p⟩ := h
  refine ⟨G, ρ, s, ⟨a.sit, a.gr, a.rs⟩, ?_⟩
  unfold sTry at p
  revert p
  cases fb ρ s with
  | bad => exact fun p => p
  | exc c =>
    intro p
    dsimp only at p
    by_cases hc : c < 5
    · rw [if_pos hc] at p
      intro G' H' g σ'
      refine ⟨hexm c hc, rfl, fun hlen b hb' => ?_⟩
      have hjl : j < σ'.length := by rw [hlen]; exact (List.getElem?_eq_some_iff.mp hj).1
      have hget : (((σ'.set i (some (V.ref b))).set j (some (V.ref b))).set i none)[j]? = some (some (V.ref b)) := by
        rw [List.getElem?_set_ne hij, List.getElem?_set_self (by rw [List.length_set]; exact hjl)]
      refine ⟨V.ref b, hget, rfl, decide (V.ref b = V.non), rfl, ?_⟩
      dsimp only
      rw [if_neg (by simp)]
      refine ⟨V.ref b, hget, b, c, rfl, hc, upd_same, fun H2 k1 k2 => ?_⟩
      have hne : ∀ x o, H' x = some o → x ≠ b := fun x o hx z => by rw [z, hb'] at hx; cases hx
      refine p (.str (nm c)) G0 H2 ⟨fun _ _ z => z, fun x o hfp hx => ?_, fun x hx => ?_, fun x o z => .inl z⟩ ⟨fun x o z => ?_, fun _ z => z.elim, fun _ z => z.elim, trivial⟩ (.inl (.str _))
      · have h1 := g.h x o hfp hx
        exact k1 x o (hne x o h1) (by rw [upd_ne (hne x o h1)]; exact h1)
      · have h1 := k2 x hx
        have h2 : x ≠ b := fun z => by rw [z, upd_same] at h1; cases h1
        rw [upd_ne h2] at h1
        exact g.dom x h1
      · have h0 := sb0 x o z
        have h1 := g.h x o (fun z => z) h0
        exact k1 x o (hne x o h1) (by rw [upd_ne (hne x o h1)]; exact h1)
    · rw [if_neg hc] at p; exact p.elim
  | ok y =>
    obtain ⟨fl, s'⟩ := y
    cases fl with
    | nx ρ' =>
      intro p σ' G' H' a'
      dsimp only at p
      cases hρ : ρ'[j]? with
      | none => rw [hρ] at p; exact p.elim
      | some o =>
        cases o with
        | none => rw [hρ] at p; exact p.elim
        | some d =>
          cases d with
          | none =>
            rw [hρ] at p
            dsimp only at p
            obtain ⟨v, hv1, hv2⟩ := a'.rs.plain j .none hρ (by simp)
            have hvn : v = .non := by
              rcases hv2 with r | ⟨n, e, _⟩
              · cases r; rfl
              · cases e
            subst hvn
            refine ⟨V.non, hv1, rfl, decide (V.non = V.non), rfl, ?_⟩
            dsimp only
            rw [if_pos (by simp)]
            refine ⟨G', ρ', s', ⟨a'.sit, a'.gr, a'.rs⟩, ?_⟩
            revert p
            cases fe ρ' s' with
            | ok z =>
              intro p v2 G2 H2 g2 S2 r2
              exact p v2 G2 H2 (a'.gr.trans g2) S2 r2
            | exc c => exact fun p G2 H2 g2 => p G2 H2 (a'.gr.trans g2)
            | bad => exact fun p => p
          | _ => rw [hρ] at p; exact p.elim
    | _ => exact fun p => p.elim
end
end DL

/-! DLI: list.index; a pure def whose ground is known; sorted lists of pairs -/
namespace DL
open PySem PySem.Spec PyProof.Rows L2
section
variable {X : Cx} {B : Bs} {O O' : List Nat}
def pIndex : PD → PD → R PD
  | .list ds, d => if SeqAt.shaped (.list ds) && SeqAt.shaped d then match ds.findIdx? fun z => PyData.eqv z d with
    | some j => .ok (.int (j : Nat))
    | none => .bad
    else .bad
  | _, _ => .bad
theorem dm_index (hu : X.A.units + 65 < cLine) : MtR X "list.index" (rdM pIndex) := by
  refine MtR.by fun x vs H Q h => ?_
  obtain ⟨y, rfl, G, d, e, sb, rx, ry, p⟩ := h
  cases d with
  | list ds =>
    unfold pIndex at p
    dsimp only at p
    split at p
    · rename_i hsh
      rw [Bool.and_eq_true] at hsh
      split at p
      · rename_i j hj
        obtain ⟨a, us, rfl, ga, da⟩ := rx.of_lst
        have h1 := List.findIdx?_eq_some_iff_getElem.mp hj
        obtain ⟨hlt, hz, hno⟩ := h1
        refine ⟨_, mt_indexD hu, a, y, _, ds, j, ds[j], rfl, rfl, rx.dp sb, ry.dp sb, hsh.1, hsh.2, List.getElem?_eq_getElem hlt, hz, fun m z' hm hz' => ?_, p.val sb (.int _)⟩
        have hml : m < ds.length := by omega
        rw [List.getElem?_eq_getElem hml] at hz'
        cases hz'
        have := hno m hm
        simpa using this
      · exact p.elim
    · exact p.elim
  | _ => exact p.elim
end
section
variable {P : Program} {w : World} {K : PySem.W.Frag} {mg : Str → Option Value} {base : Heap} {x qual : Str} {params : Arguments} {body : List Stmt} {scope : Scope} {f : Addr} {fd : FuncData} {cls : Nat → Addr}
/-- a pure def by its body, its ground known -/
theorem fn_pureT {N ps : List Str} {k n : Nat} {fb : Env → Unit → R (Fl × Unit)} (F : FunD K x qual params body scope [] [] f fd) (S : FnScope N ps scope) (hm : mg x = some (.ref f)) (hn : ps.length = n) (hb : Binds K fd ps [])
    (hbody : ∀ (cdv : Value) (A : Around) (outer : List PySem.Env) (s : Shared) (H : Hp) (E : XK) (tk : Nat → V) (G : Hp), Sub G H → Room k (A.deeper (envOfC qual scope s.heap.objs.size f cdv)) →
      DSs (cxOf (L2.CX P w) P w K mg base N qual scope f cdv A outer s H E) ⟨Wp cls tk, G, H, E⟩ [] [] body fb) : FnP P w K mg base cls (k + 1) x n (mBody (N.length - n) fb) := by
  refine ⟨f, fd, ps, F.ok S (fun vs H Q E h => ?_) (fun cdv A outer s H vs Q E hr h => ?_), hm, F.kp, hb⟩
  · obtain ⟨tk, G, ds, _, r, hl, _⟩ := h
    rw [r.len, hl, hn]
  · obtain ⟨tk, G, ds, sb, r, hl, p⟩ := h
    refine ⟨_, hbody cdv A outer s H E tk G sb hr, G, startD N ds, (), ⟨⟨sb, fun _ z => z.elim, fun _ z => z.elim, trivial⟩, .refl, r.begin_ N⟩, ?_⟩
    unfold mBody at p
    have e0 : startD N ds = ds.map some ++ List.replicate (N.length - n) none := by unfold startD; rw [hl]
    rw [e0]
    revert p
    generalize fb (ds.map some ++ List.replicate (N.length - n) none) () = r'
    intro p
    cases r' with
    | bad => exact p
    | exc c => exact fun G' H' g => p G' H' g
    | ok y =>
      obtain ⟨fl, u⟩ := y
      cases fl with
      | nx ρ => exact fun σ' G' H' a => p .non G' H' a.gr a.sit.sub (.inl .non)
      | rt d => exact fun v G' H' g st rv => p v G' H' g st.sub rv
      | bk ρ => exact p.elim
      | ct ρ => exact p.elim
end
end DL

/-! DLJ: sorted lists of pairs -/
namespace DL
open PySem PySem.Spec PyProof.Rows L2
def pD (p : Int × Int) : PD := .tuple [.int p.1, .int p.2]
def toPairs : List PD → Option (List (Int × Int))
  | [] => some []
  | .tuple [.int a, .int b] :: r => match toPairs r with
    | some ps => some ((a, b) :: ps)
    | none => none
  | _ => none
theorem toPairs_eq : ∀ {xs : List PD} {ps : List (Int × Int)}, toPairs xs = some ps → xs = ps.map pD
  | [], ps, h => by cases h; rfl
  | x :: r, ps, h => by
    unfold toPairs at h
    split at h
    · cases h
      rename_i e
      cases e
    · rename_i e
      split at h
      · rename_i q hq
        cases h
        cases e
        rw [toPairs_eq hq]
        rfl
      · cases h
    · cases h
theorem toPairs_map : ∀ ps : List (Int × Int), toPairs (ps.map pD) = some ps
  | [] => rfl
  | p :: ps => by
    show (match toPairs (ps.map pD) with | some q => some ((p.1, p.2) :: q) | none => none) = _
    rw [toPairs_map ps]
def lexLe (p q : Int × Int) : Bool := decide (p.1 < q.1) || (decide (p.1 = q.1) && decide (p.2 ≤ q.2))
def insP (k : Int × Int) : List (Int × Int) → List (Int × Int)
  | [] => [k]
  | x :: r => if lexLe k x = true then k :: x :: r else x :: insP k r
def sortP : List (Int × Int) → List (Int × Int)
  | [] => []
  | x :: r => insP x (sortP r)
def LexLe (p q : Int × Int) : Prop := p.1 < q.1 ∨ (p.1 = q.1 ∧ p.2 ≤ q.2)
theorem lexLe_iff {p q : Int × Int} : lexLe p q = true ↔ LexLe p q := by
  unfold lexLe LexLe
  simp
theorem perm_insP {k : Int × Int} : ∀ {l : List (Int × Int)}, (insP k l).Perm (k :: l)
  | [] => .refl _
  | x :: r => by
    unfold insP
    split
    · exact .refl _
    · exact ((perm_insP (l := r)).cons x).trans (List.Perm.swap k x r)
theorem perm_sortP : ∀ {l : List (Int × Int)}, (sortP l).Perm l
  | [] => .refl _
  | x :: r => by
    unfold sortP
    exact perm_insP.trans (perm_sortP.cons x)
theorem LexLe.trans {p q r : Int × Int} (h : LexLe p q) (k : LexLe q r) : LexLe p r := by
  unfold LexLe at *
  omega
theorem LexLe.total {p q : Int × Int} (h : ¬ LexLe p q) : LexLe q p := by
  unfold LexLe at *
  omega
theorem LexLe.anti {p q : Int × Int} (h : LexLe p q) (k : LexLe q p) : p = q := by
  unfold LexLe at *
  exact Prod.ext (by omega) (by omega)
theorem le_insP {k : Int × Int} : ∀ {l : List (Int × Int)}, l.Pairwise LexLe → (insP k l).Pairwise LexLe
  | [], _ => by simp [insP]
  | x :: r, h => by
    have h' := List.pairwise_cons.mp h
    unfold insP
    split
    · rename_i hk
      refine List.pairwise_cons.mpr ⟨fun y hy => ?_, h⟩
      rcases List.mem_cons.mp hy with z | z
      · rw [z]; exact lexLe_iff.mp hk
      · exact (lexLe_iff.mp hk).trans (h'.1 y z)
    · rename_i hk
      refine List.pairwise_cons.mpr ⟨fun y hy => ?_, le_insP h'.2⟩
      rcases List.mem_cons.mp (perm_insP.mem_iff.mp hy) with z | z
      · rw [z]; exact LexLe.total fun q => hk (lexLe_iff.mpr q)
      · exact h'.1 y z
theorem le_sortP : ∀ {l : List (Int × Int)}, (sortP l).Pairwise LexLe
  | [] => .nil
  | x :: r => le_insP le_sortP
theorem perm_pairs_eq {l m : List (Int × Int)} (h : l.Perm m) (a : l.Pairwise LexLe) (b : m.Pairwise LexLe) : l = m := List.Perm.eq_of_pairwise (fun x y _ _ h1 h2 => h1.anti h2) a b h
def kOf (H : Hp) (x : V) : Int × Int := match x with
  | .ref t => match H t with
    | some (.tup [.int a, .int b]) => (a, b)
    | _ => (0, 0)
  | _ => (0, 0)
theorem pairs_of {G H : Hp} (sb : Sub G H) : ∀ {xs : List V} {ps : List (Int × Int)}, DgAll G xs (ps.map pD) → xs.map (kOf H) = ps ∧ ∀ x ∈ xs, ∃ t, x = V.ref t ∧ H t = some (.tup [.int (kOf H x).1, .int (kOf H x).2]) ∧ Dg G x (pD (kOf H x))
  | [], [], _ => ⟨rfl, fun x h => by cases h⟩
  | [], _ :: _, h => by cases h
  | _ :: _, [], h => by cases h
  | x :: xs, p :: ps, h => by
    cases h with
    | cons hx hr =>
      obtain ⟨e, q⟩ := pairs_of sb hr
      have hx0 := hx
      cases hx with
      | tup ga da =>
        rename_i t vs
        cases da with
        | cons h1 da =>
          cases da with
          | cons h2 da =>
            cases da
            cases h1
            cases h2
            have hH := sb _ _ ga
            have hk : kOf H (V.ref t) = p := by
              unfold kOf
              dsimp only
              rw [hH]
            refine ⟨by rw [List.map_cons, hk, e], fun y hy => ?_⟩
            rcases List.mem_cons.mp hy with z | z
            · subst z
              rw [hk]
              exact ⟨t, rfl, hH, hx0⟩
            · exact q y z
section
variable {X : Cx} {B : Bs} {O O' : List Nat}
def pSortedP : List PD → R PD
  | [.list xs] => match toPairs xs with
    | some ps => .ok (.list ((sortP ps).map pD))
    | none => .bad
  | _ => .bad
theorem dgAll_of {G : Hp} {f : V → PD} : ∀ {ys : List V}, (∀ y ∈ ys, Dg G y (f y)) → DgAll G ys (ys.map f)
  | [], _ => .nil
  | y :: ys, h => .cons (h y (by simp)) (dgAll_of fun z hz => h z (List.mem_cons_of_mem _ hz))
theorem dc_sortedP : CallR X (.builtin "sorted") (rdC pSortedP) := by
  refine CallR.by fun vs H Q h => ?_
  obtain ⟨G, ds, sb, rs, p⟩ := h
  unfold pSortedP at p
  split at p
  · obtain ⟨v, rfl, rv⟩ := rs.one
    obtain ⟨a, xs, rfl, ga, da⟩ := rv.of_lst
    split at p
    · rename_i ps e
      rw [toPairs_eq e] at da
      obtain ⟨ek, hk⟩ := pairs_of sb da
      refine ⟨_, cr_sortedPO, a, xs, kOf H, rfl, SqL.of (sb _ _ ga), fun x hx => ?_, fun ys q hs hst hq => ?_⟩
      · obtain ⟨t, h1, h2, _⟩ := hk x hx
        exact ⟨t, h1, h2⟩
      · have hys : ∀ y ∈ ys, Dg G y (pD (kOf H y)) := fun y hy => by
          obtain ⟨_, _, _, h3⟩ := hk y (hst.perm.mem_iff.mp hy)
          exact h3
        have em : ys.map (kOf H) = sortP ps := by
          refine perm_pairs_eq ?_ ?_ le_sortP
          · rw [← ek]
            exact (hst.perm.map _).trans perm_sortP.symm
          · rw [List.pairwise_map]
            refine List.Pairwise.imp (fun {u v} huv => ?_) hs
            have := SrtO.lexB_no.mp huv
            unfold LexLe
            omega
        have hd := dgAll_of (f := fun y => pD (kOf H y)) hys
        have e2 : ys.map (fun y => pD (kOf H y)) = (sortP ps).map pD := by
          rw [← em, List.map_map]; rfl
        rw [e2] at hd
        exact p.lst sb hd hq
    · exact p.elim
  · exact p.elim
end
end DL

/-! DLK: what is asked of the written part about the error classes -/
namespace DL
open PySem PySem.Spec PyProof.Rows L2
def excCB (K : PySem.W.Frag) (D : Addr) : Bool :=
  He.eqO (PySem.W.findIn K (.ref D) "__getattribute__") (some (some (.builtin "BaseException.__getattribute__"))) &&
  (He.eqO (PySem.W.findIn K (.ref D) "__getattr__") (some none) &&
  (decide (PySem.W.subIn K (.ref D) (.type "BaseException") = some true) &&
  (PySem.W.hasDictIn K D &&
  (He.eqO (PySem.W.findIn K (.ref D) "__class__") (some (some (.builtin "object.__class__"))) &&
  (He.eqO (PySem.W.specialIn K (.builtin "object.__class__") "__get__") (some (some (.builtin "getset_descriptor.__get__"))) &&
  (decide (PySem.W.takesIn K (.builtin "object.__class__") = some true) &&
  decide (PySem.W.mroIn K D (.type "object") = some true)))))))
theorem excCB_ok {K : PySem.W.Frag} {D : Addr} (h : excCB K D = true) : L2.ExcC K D := by
  unfold excCB at h
  simp only [Bool.and_eq_true, decide_eq_true_eq] at h
  obtain ⟨h1, h2, h3, h4, h5, h6, h7, h8⟩ := h
  exact ⟨He.eqO_ok h1, He.eqO_ok h2, h3, h4, He.eqO_ok h5, He.eqO_ok h6, h7, h8⟩
def errB (K : PySem.W.Frag) : Bool := (List.range 5).all fun c => excCB K (clsK K c) &&
  (((List.range 5).all fun j => decide (PySem.W.kitOne K (.ref (clsK K c)) (.ref (clsK K j)) = some (decide (c = j)))) &&
  (decide (PySem.W.kitOne K (.ref (clsK K c)) (.ref (He.ga K "AlarmError")) = some true) &&
  (decide (PySem.W.exmOne K (.ref (clsK K c)) (.ref (He.ga K "AlarmError")) = some true) &&
  decide (PySem.W.kitOne K (.ref (clsK K c)) (.type "ValueError") = some true))))
theorem errK_mk {K : PySem.W.Frag} {h : Heap} {mg : Str → Option Value} (X : K.In h) (G : h.Ns mainGlobals mg) (b : errB K = true) (h1 : (He.Fa.glo "AlarmError").ok K = true) (h2 : (He.Fa.free "ValueError").ok K = true) : ErrK K mg (clsK K) := by
  have key : ∀ c, c < 5 → excCB K (clsK K c) = true ∧ (∀ j, j < 5 → PySem.W.kitOne K (.ref (clsK K c)) (.ref (clsK K j)) = some (decide (c = j))) ∧ PySem.W.kitOne K (.ref (clsK K c)) (.ref (He.ga K "AlarmError")) = some true ∧ PySem.W.exmOne K (.ref (clsK K c)) (.ref (He.ga K "AlarmError")) = some true ∧ PySem.W.kitOne K (.ref (clsK K c)) (.type "ValueError") = some true := fun c hc => by
    unfold errB at b
    have q := List.all_eq_true.mp b c (List.mem_range.mpr hc)
    simp only [Bool.and_eq_true, decide_eq_true_eq] at q
    obtain ⟨q1, q2, q3, q4, q5⟩ := q
    refine ⟨q1, fun j hj => ?_, q3, q4, q5⟩
    have := List.all_eq_true.mp q2 j (List.mem_range.mpr hj)
    simpa using this
  exact ⟨fun c hc => excCB_ok (key c hc).1, fun c j hc hj => (key c hc).2.1 j hj, ⟨_, He.glo_ok X G h1, fun c hc => ⟨(key c hc).2.2.1, (key c hc).2.2.2.1⟩⟩, fun c hc => (key c hc).2.2.2.2, He.free_ok X G h2⟩
def errN (c : Nat) : Str := ["things", "number", "points", "text", "none"].getD c "odd"
end DL


namespace KK
open PySem PySem.Spec PyProof.Rows L2 DL
def top (i : Nat) : Stmt := PySem.Challenge.pw_alarmcurves_k18_examples.main.body.getD i (.Pass ⟨0, 0, 0, 0⟩)
def fnL : List He.DefD := [⟨("is_int", none), "is_int", "is_int", defArgs (top 9), defBody (top 9), defScope (top 9), [], []⟩,
  ⟨("is_thing", none), "is_thing", "is_thing", defArgs (top 10), defBody (top 10), defScope (top 10), [], []⟩,
  ⟨("is_things", none), "is_things", "is_things", defArgs (top 11), defBody (top 11), defScope (top 11), [], []⟩,
  ⟨("check_things", none), "check_things", "check_things", defArgs (top 12), defBody (top 12), defScope (top 12), [], []⟩,
  ⟨("check_threshold", none), "check_threshold", "check_threshold", defArgs (top 13), defBody (top 13), defScope (top 13), [], []⟩,
  ⟨("check_cost", none), "check_cost", "check_cost", defArgs (top 14), defBody (top 14), defScope (top 14), [], []⟩,
  ⟨("is_points", none), "is_points", "is_points", defArgs (top 15), defBody (top 15), defScope (top 15), [], []⟩,
  ⟨("check_points", none), "check_points", "check_points", defArgs (top 16), defBody (top 16), defScope (top 16), [], []⟩,
  ⟨("common", none), "common", "common", defArgs (top 18), defBody (top 18), defScope (top 18), [], []⟩,
  ⟨("lowest", none), "lowest", "lowest", defArgs (top 19), defBody (top 19), defScope (top 19), [], []⟩,
  ⟨("plus", none), "plus", "plus", defArgs (top 20), defBody (top 20), defScope (top 20), [], []⟩,
  ⟨("product", none), "product", "product", defArgs (top 21), defBody (top 21), defScope (top 21), [], []⟩,
  ⟨("less", none), "less", "less", defArgs (top 22), defBody (top 22), defScope (top 22), [], []⟩,
  ⟨("is_mean", none), "is_mean", "is_mean", defArgs (top 23), defBody (top 23), defScope (top 23), [], []⟩,
  ⟨("check_mean", none), "check_mean", "check_mean", defArgs (top 24), defBody (top 24), defScope (top 24), [], []⟩,
  ⟨("counts", none), "counts", "counts", defArgs (top 26), defBody (top 26), defScope (top 26), [], []⟩,
  ⟨("scores_of", none), "scores_of", "scores_of", defArgs (top 27), defBody (top 27), defScope (top 27), [], []⟩,
  ⟨("points_of", none), "points_of", "points_of", defArgs (top 28), defBody (top 28), defScope (top 28), [], []⟩,
  ⟨("curve", none), "curve", "curve", defArgs (top 29), defBody (top 29), defScope (top 29), [], []⟩,
  ⟨("most_true", none), "most_true", "most_true", defArgs (top 30), defBody (top 30), defScope (top 30), [], []⟩,
  ⟨("outcomes", none), "outcomes", "outcomes", defArgs (top 32), defBody (top 32), defScope (top 32), [], []⟩,
  ⟨("pair_counts", none), "pair_counts", "pair_counts", defArgs (top 33), defBody (top 33), defScope (top 33), [], []⟩,
  ⟨("double_area", none), "double_area", "double_area", defArgs (top 34), defBody (top 34), defScope (top 34), [], []⟩,
  ⟨("area", none), "area", "area", defArgs (top 35), defBody (top 35), defScope (top 35), [], []⟩,
  ⟨("way_turn", none), "way_turn", "way_turn", defArgs (top 37), defBody (top 37), defScope (top 37), [], []⟩,
  ⟨("corners_of", none), "corners_of", "corners_of", defArgs (top 38), defBody (top 38), defScope (top 38), [], []⟩,
  ⟨("hull", none), "hull", "hull", defArgs (top 39), defBody (top 39), defScope (top 39), [], []⟩,
  ⟨("height_of", none), "height_of", "height_of", defArgs (top 40), defBody (top 40), defScope (top 40), [], []⟩,
  ⟨("check_share", none), "check_share", "check_share", defArgs (top 42), defBody (top 42), defScope (top 42), [], []⟩,
  ⟨("mean_point", none), "mean_point", "mean_point", defArgs (top 43), defBody (top 43), defScope (top 43), [], []⟩,
  ⟨("mixed_alarms", none), "mixed_alarms", "mixed_alarms", defArgs (top 44), defBody (top 44), defScope (top 44), [], []⟩,
  ⟨("best_true", none), "best_true", "best_true", defArgs (top 45), defBody (top 45), defScope (top 45), [], []⟩,
  ⟨("check_costs", none), "check_costs", "check_costs", defArgs (top 47), defBody (top 47), defScope (top 47), [], []⟩,
  ⟨("best_points", none), "best_points", "best_points", defArgs (top 48), defBody (top 48), defScope (top 48), [], []⟩,
  ⟨("miss_cost_for", none), "miss_cost_for", "miss_cost_for", defArgs (top 49), defBody (top 49), defScope (top 49), [], []⟩,
  ⟨("levels", none), "levels", "levels", defArgs (top 51), defBody (top 51), defScope (top 51), [], []⟩,
  ⟨("falls", none), "falls", "falls", defArgs (top 52), defBody (top 52), defScope (top 52), [], []⟩,
  ⟨("put_together", none), "put_together", "put_together", defArgs (top 53), defBody (top 53), defScope (top 53), [], []⟩,
  ⟨("pooled", none), "pooled", "pooled", defArgs (top 54), defBody (top 54), defScope (top 54), [], []⟩,
  ⟨("pools", none), "pools", "pools", defArgs (top 55), defBody (top 55), defScope (top 55), [], []⟩,
  ⟨("check_both", none), "check_both", "check_both", defArgs (top 57), defBody (top 57), defScope (top 57), [], []⟩,
  ⟨("height", none), "height", "height", defArgs (top 58), defBody (top 58), defScope (top 58), [], []⟩,
  ⟨("first_below", none), "first_below", "first_below", defArgs (top 59), defBody (top 59), defScope (top 59), [], []⟩,
  ⟨("things_with", none), "things_with", "things_with", defArgs (top 62), defBody (top 62), defScope (top 62), [], []⟩,
  ⟨("check_numbers", none), "check_numbers", "check_numbers", defArgs (top 63), defBody (top 63), defScope (top 63), [], []⟩,
  ⟨("count_curves", none), "count_curves", "count_curves", defArgs (top 64), defBody (top 64), defScope (top 64), [], []⟩,
  ⟨("format_things", none), "format_things", "format_things", defArgs (top 68), defBody (top 68), defScope (top 68), [], []⟩,
  ⟨("_law_start", none), "_law_start", "_law_start", defArgs (top 70), defBody (top 70), defScope (top 70), [], []⟩,
  ⟨("_law_draw", none), "_law_draw", "_law_draw", defArgs (top 71), defBody (top 71), defScope (top 71), [], []⟩,
  ⟨("_law_first", none), "_law_first", "_law_first", defArgs (top 72), defBody (top 72), defScope (top 72), [], []⟩,
  ⟨("_law_second", none), "_law_second", "_law_second", defArgs (top 73), defBody (top 73), defScope (top 73), [], []⟩,
  ⟨("law", none), "law", "law", defArgs (top 74), defBody (top 74), defScope (top 74), [], []⟩,
  ⟨("Watch", some "__init__"), "__init__", "Watch.__init__", defArgs (inClass (top 66) 0), defBody (inClass (top 66) 0), defScope (inClass (top 66) 0), [], []⟩,
  ⟨("Watch", some "push"), "push", "Watch.push", defArgs (inClass (top 66) 1), defBody (inClass (top 66) 1), defScope (inClass (top 66) 1), [], []⟩,
  ⟨("Watch", some "counts"), "counts", "Watch.counts", defArgs (inClass (top 66) 3), defBody (inClass (top 66) 3), defScope (inClass (top 66) 3), [], []⟩,
  ⟨("Watch", some "things"), "things", "Watch.things", defArgs (inClass (top 66) 4), defBody (inClass (top 66) 4), defScope (inClass (top 66) 4), [], []⟩,
  ⟨("Watch", some "__len__"), "__len__", "Watch.__len__", defArgs (inClass (top 66) 6), defBody (inClass (top 66) 6), defScope (inClass (top 66) 6), [], []⟩]
def faL : List He.Fa := [.glo "is_int", .glo "is_thing", .glo "is_things", .glo "check_things", .glo "check_threshold", .glo "check_cost", .glo "is_points", .glo "check_points", .glo "common", .glo "lowest", .glo "plus", .glo "product", .glo "less", .glo "is_mean", .glo "check_mean", .glo "counts", .glo "scores_of", .glo "points_of", .glo "curve", .glo "most_true", .glo "outcomes", .glo "pair_counts", .glo "double_area", .glo "area", .glo "way_turn", .glo "corners_of", .glo "hull", .glo "height_of", .glo "check_share", .glo "mean_point", .glo "mixed_alarms", .glo "best_true", .glo "check_costs", .glo "best_points", .glo "miss_cost_for", .glo "levels", .glo "falls", .glo "put_together", .glo "pooled", .glo "pools", .glo "check_both", .glo "height", .glo "first_below", .glo "things_with", .glo "check_numbers", .glo "count_curves", .glo "format_things", .glo "_law_start", .glo "_law_draw", .glo "_law_first", .glo "_law_second", .glo "law", .glo "BadThings", .glo "BadNumber", .glo "BadPoints", .glo "NotFound", .exc "BadThings", .exc "BadNumber", .exc "BadPoints", .exc "NotFound", .int "MOST_THINGS" 12, .int "MOST_SCORE" 99, .int "MOST_EACH" 4, .glo "Watch", .cls "Watch", .noat "Watch" "threshold", .noat "Watch" "line", .mkr "Watch", .meth "Watch" "push", .meth "Watch" "counts", .meth "Watch" "things", .meth "Watch" "__len__"] ++ freeFa
abbrev RwK : PySem.W.OpenRow := PySem.W.OpenLaw.row PySem.Challenge.rw_alarmcurves_k18_examples
abbrev hkK : PySem.W.Hook := He.hookD 4 faL fnL
def obK (s : PySem.W.SharedT) : He.AlD := He.obsDG 4 faL fnL (HandSHeadRun.getT s)
theorem obK_eq (s : PySem.W.SharedT) : obK s = hkK.obs s.abs := He.obsDG_eq (HandSHeadRun.getT_eq s)
def looseK : List PySem.Str := [("_wall" : PySem.Str), ("AlarmError" : PySem.Str), ("BadThings" : PySem.Str), ("BadNumber" : PySem.Str), ("BadPoints" : PySem.Str), ("NotFound" : PySem.Str), ("MOST_THINGS" : PySem.Str), ("MOST_SCORE" : PySem.Str), ("is_int" : PySem.Str), ("is_thing" : PySem.Str), ("is_things" : PySem.Str), ("check_things" : PySem.Str), ("check_threshold" : PySem.Str), ("check_cost" : PySem.Str), ("is_points" : PySem.Str), ("check_points" : PySem.Str), ("common" : PySem.Str), ("lowest" : PySem.Str), ("plus" : PySem.Str), ("product" : PySem.Str), ("less" : PySem.Str), ("is_mean" : PySem.Str), ("check_mean" : PySem.Str), ("counts" : PySem.Str), ("scores_of" : PySem.Str), ("points_of" : PySem.Str), ("curve" : PySem.Str), ("most_true" : PySem.Str), ("outcomes" : PySem.Str), ("pair_counts" : PySem.Str), ("double_area" : PySem.Str), ("area" : PySem.Str), ("way_turn" : PySem.Str), ("corners_of" : PySem.Str), ("hull" : PySem.Str), ("height_of" : PySem.Str), ("check_share" : PySem.Str), ("mean_point" : PySem.Str), ("mixed_alarms" : PySem.Str), ("best_true" : PySem.Str), ("check_costs" : PySem.Str), ("best_points" : PySem.Str), ("miss_cost_for" : PySem.Str), ("levels" : PySem.Str), ("falls" : PySem.Str), ("put_together" : PySem.Str), ("pooled" : PySem.Str), ("pools" : PySem.Str), ("check_both" : PySem.Str), ("height" : PySem.Str), ("first_below" : PySem.Str), ("MOST_EACH" : PySem.Str), ("things_with" : PySem.Str), ("check_numbers" : PySem.Str), ("count_curves" : PySem.Str), ("Watch" : PySem.Str), ("format_things" : PySem.Str), ("_law_start" : PySem.Str), ("_law_draw" : PySem.Str), ("_law_first" : PySem.Str), ("_law_second" : PySem.Str)]
theorem runK (w : World) : HandSHeadRun.RunEq RwK (PySem.W.view RwK.prog [74]) hkK obK 8000 looseK w := by
  intro os
  kernel_rfl
end KK

/-! the mirrors, printed by gen.py -/
namespace DL
open PySem PySem.Spec PyProof.Rows L2

def b_is_int {d : Type} : Env → d → R (Fl × d) :=
      (sRet (cAndV (cUn (pIsi "int") (cVar 0)) (cAndV (cUn pNot (cUn (pIsi "bool") (cVar 0))) (cChain pLe pLe (cVar 1) (cVar 0) (cVar 2)))))
def m_is_int : List PD → R PD := mBody 0 b_is_int
def b_counts {d : Type} : Env → d → R (Fl × d) :=
      (sSeq (sSet 2 (cCall pLen (aCons (cComp (iLst (cVar 0)) (bTup (bCons (bNm 3) (bCons (bNm 4) bNil))) [3, 4] (cAndT (cTest (cOp pGe (cVar 3) (cVar 1))) (cNotT (cTest (cVar 4)))) (cC (.int 1))) aNil)))
      (sRet (cTup (aCons (cVar 2) (aCons (cCall pLen (aCons (cComp (iLst (cVar 0)) (bTup (bCons (bNm 3) (bCons (bNm 4) bNil))) [3, 4] (cAndT (cTest (cOp pGe (cVar 3) (cVar 1))) (cTest (cVar 4))) (cC (.int 1))) aNil)) aNil)))))
def m_counts : List PD → R PD := mBody 3 b_counts
def b_scores_of {d : Type} : Env → d → R (Fl × d) :=
      (sRet (cUn pRev (cUn pSortSet (cComp (iLst (cVar 0)) (bTup (bCons (bNm 1) (bCons (bNm 2) bNil))) [1, 2] tYesD (cVar 1)))))
def m_scores_of : List PD → R PD := mBody 2 b_scores_of
def b__law_point {d : Type} : Env → d → R (Fl × d) :=
      (sSeq (sSet 2 (cComp (iLst (cVar 0)) (bTup (bCons (bNm 3) (bCons (bNm 4) bNil))) [3, 4] (cTest (cOp pGe (cVar 3) (cVar 1))) (cVar 4)))
      (sRet (cTup (aCons (cMeth pCount (cVar 2) (cC (.bool false))) (aCons (cMeth pCount (cVar 2) (cC (.bool true))) aNil)))))
def m__law_point : List PD → R PD := mBody 3 b__law_point
def b_is_thing {d : Type} : Env → d → R (Fl × d) :=
      (sSeq (sIf (cOrT (cNotT (cTest (cUn (pIsi "tuple") (cVar 0)))) (cTest (cOp pNe (cCall pLen (aCons (cVar 0) aNil)) (cC (.int 2)))))
      (sRet (cC (.bool false)))
      sNil)
      (sRet (cAndV (cCallF 3 m_is_int (aCons (cOp pIx (cVar 0) (cC (.int 0))) (aCons (cC (.int 0)) (aCons (cC (.int 99)) aNil)))) (cUn (pIsi "bool") (cOp pIx (cVar 0) (cC (.int 1)))))))
def m_is_thing : List PD → R PD := mBody 0 b_is_thing
def b_check_threshold {d : Type} : Env → d → R (Fl × d) :=
      (sIf (cNotT (cTest (cCallF 3 m_is_int (aCons (cVar 0) (aCons (cC (.int 0)) (aCons (cOp pAdd (cC (.int 99)) (cC (.int 1))) aNil))))))
      (sRaise 1)
      sNil)
def m_check_threshold : List PD → R PD := mBody 0 b_check_threshold
def b_is_points {d : Type} : Env → d → R (Fl × d) :=
      (sSeq (sIf (cOrT (cNotT (cTest (cUn (pIsi "list") (cVar 0)))) (cOrT (cNotT (cTest (cChain pLe pLe (cC (.int 2)) (cCall pLen (aCons (cVar 0) aNil)) (cOp pAdd (cC (.int 12)) (cC (.int 1)))))) (cTest (cOp pNe (cOp pIx (cVar 0) (cC (.int 0))) (cTup (aCons (cC (.int 0)) (aCons (cC (.int 0)) aNil)))))))
      (sRet (cC (.bool false)))
      sNil)
      (sSeq (sFor (iLst (cVar 0)) (bNm 1)
      (sIf (cOrT (cNotT (cTest (cUn (pIsi "tuple") (cVar 1)))) (cOrT (cTest (cOp pNe (cCall pLen (aCons (cVar 1) aNil)) (cC (.int 2)))) (cNotT (cTest (cCall pAll (aCons (cComp (iTp (cVar 1)) (bNm 4) [4] tYesD (cCallF 3 m_is_int (aCons (cVar 4) (aCons (cC (.int 0)) (aCons (cC (.int 12)) aNil))))) aNil))))))
      (sRet (cC (.bool false)))
      sNil))
      (sSeq (sFor (iZp (aCons (cVar 0) (aCons (cSl pSl (cVar 0) (oSome (cC (.int 1))) oNone) aNil))) (bTup (bCons (bNm 2) (bCons (bNm 3) bNil)))
      (sIf (cOrT (cTest (cOp pGt (cOp pIx (cVar 2) (cC (.int 0))) (cOp pIx (cVar 3) (cC (.int 0))))) (cOrT (cTest (cOp pGt (cOp pIx (cVar 2) (cC (.int 1))) (cOp pIx (cVar 3) (cC (.int 1))))) (cTest (cOp pEq (cVar 2) (cVar 3)))))
      (sRet (cC (.bool false)))
      sNil))
      (sRet (cOp pLe (cCall pSum (aCons (cOp pIx (cVar 0) (cUn pNeg (cC (.int 1)))) aNil)) (cC (.int 12)))))))
def m_is_points : List PD → R PD := mBody 4 b_is_points
def b_points_of {d : Type} : Env → d → R (Fl × d) :=
      (sRet (cOp pAdd (cLst (aCons (cTup (aCons (cC (.int 0)) (aCons (cC (.int 0)) aNil))) aNil)) (cComp (iLst (cCallF 1 m_scores_of (aCons (cVar 0) aNil))) (bNm 1) [1] tYesD (cCallF 2 m_counts (aCons (cVar 0) (aCons (cVar 1) aNil))))))
def m_points_of : List PD → R PD := mBody 1 b_points_of
def b__law_pick : Env → Dr → R (Fl × Dr) :=
      (sRet (cOp pIx (cVar 1) (cCallD 2 m__law_draw (aCons (cVar 0) (aCons (cCall pLen (aCons (cVar 1) aNil)) aNil)))))
def m__law_pick : List PD → Dr → R (PD × Dr) := mBodyD 0 b__law_pick
def b__law_curve {d : Type} : Env → d → R (Fl × d) :=
      (sSeq (sSetF 1 (fLst aNil))
      (sSeq (sFor (iRg3 (aCons (cC (.int 100)) (aCons (cOp pSub (cC (.int 0)) (cC (.int 1))) (aCons (cOp pSub (cC (.int 0)) (cC (.int 1))) aNil)))) (bNm 2)
      (sSeq (sSet 3 (cCallF 2 m__law_point (aCons (cVar 0) (aCons (cVar 2) aNil))))
      (sIf (cTest (cOp pNotIn (cVar 3) (cVar 1)))
      (sApp 1 (cVar 3))
      sNil)))
      (sRet (cVar 1))))
def m__law_curve : List PD → R PD := mBody 3 b__law_curve
def b_is_things {d : Type} : Env → d → R (Fl × d) :=
      (sSeq (sIf (cOrT (cNotT (cTest (cUn (pIsi "list") (cVar 0)))) (cNotT (cTest (cChain pLe pLe (cC (.int 1)) (cCall pLen (aCons (cVar 0) aNil)) (cC (.int 12))))))
      (sRet (cC (.bool false)))
      sNil)
      (sRet (cCall pAll (aCons (cComp (iLst (cVar 0)) (bNm 1) [1] tYesD (cCallF 1 m_is_thing (aCons (cVar 1) aNil))) aNil))))
def m_is_things : List PD → R PD := mBody 1 b_is_things
def b__law_things : Env → Dr → R (Fl × Dr) :=
      (sSeq (sSet 2 (cCallD 2 m__law_pick (aCons (cVar 0) (aCons (cLst (aCons (cC (.int 2)) (aCons (cC (.int 5)) (aCons (cC (.int 12)) (aCons (cC (.int 100)) aNil))))) aNil))))
      (sRet (cComp (iRg1 (aCons (cOp pAdd (cC (.int 1)) (cCallD 2 m__law_draw (aCons (cVar 0) (aCons (cVar 1) aNil)))) aNil)) (bNm 3) [3] tYesD (cTup (aCons (cCallD 2 m__law_draw (aCons (cVar 0) (aCons (cVar 2) aNil))) (aCons (cOp pEq (cCallD 2 m__law_draw (aCons (cVar 0) (aCons (cC (.int 2)) aNil))) (cC (.int 0))) aNil))))))
def m__law_things : List PD → Dr → R (PD × Dr) := mBodyD 2 b__law_things
def b_check_things {d : Type} : Env → d → R (Fl × d) :=
      (sIf (cNotT (cTest (cCallF 1 m_is_things (aCons (cVar 0) aNil))))
      (sRaise 0)
      sNil)
def m_check_things : List PD → R PD := mBody 0 b_check_things
def b_alarms_at {d : Type} : Env → d → R (Fl × d) :=
      (sSeq (sExpr (cCallF 1 m_check_things (aCons (cVar 0) aNil)))
      (sSeq (sExpr (cCallF 1 m_check_threshold (aCons (cVar 1) aNil)))
      (sRet (cCallF 2 m_counts (aCons (cVar 0) (aCons (cVar 1) aNil))))))
def m_alarms_at : List PD → R PD := mBody 0 b_alarms_at
def b_unlike_scores {d : Type} : Env → d → R (Fl × d) :=
      (sSeq (sExpr (cCallF 1 m_check_things (aCons (cVar 0) aNil)))
      (sRet (cCallF 1 m_scores_of (aCons (cVar 0) aNil))))
def m_unlike_scores : List PD → R PD := mBody 0 b_unlike_scores
def b_totals {d : Type} : Env → d → R (Fl × d) :=
      (sSeq (sExpr (cCallF 1 m_check_things (aCons (cVar 0) aNil)))
      (sRet (cCallF 2 m_counts (aCons (cVar 0) (aCons (cC (.int 0)) aNil)))))
def m_totals : List PD → R PD := mBody 0 b_totals
def b_curve {d : Type} : Env → d → R (Fl × d) :=
      (sSeq (sExpr (cCallF 1 m_check_things (aCons (cVar 0) aNil)))
      (sRet (cCallF 1 m_points_of (aCons (cVar 0) aNil))))
def m_curve : List PD → R PD := mBody 0 b_curve
def b_thresholds_for {d : Type} : Env → d → R (Fl × d) :=
      (sSeq (sExpr (cCallF 1 m_check_things (aCons (cVar 0) aNil)))
      (sSeq (sSet 2 (cComp (iRg1 (aCons (cC (.int 101)) aNil)) (bNm 3) [3] (cTest (cOp pEq (cCallF 2 m_counts (aCons (cVar 0) (aCons (cVar 3) aNil))) (cVar 1))) (cVar 3)))
      (sRet (cIf (cTest (cOp pNe (cVar 2) (cLst aNil))) (cTup (aCons (cOp pIx (cVar 2) (cC (.int 0))) (aCons (cOp pIx (cVar 2) (cUn pNeg (cC (.int 1)))) aNil))) (cC .none)))))
def m_thresholds_for : List PD → R PD := mBody 2 b_thresholds_for
def b_most_true {d : Type} : Env → d → R (Fl × d) :=
      (sSeq (sExpr (cCallF 1 m_check_things (aCons (cVar 0) aNil)))
      (sSeq (sIf (cNotT (cTest (cCallF 3 m_is_int (aCons (cVar 1) (aCons (cC (.int 0)) (aCons (cC (.int 12)) aNil))))))
      (sRaise 1)
      sNil)
      (sRet (cCall pMax (aCons (cComp (iLst (cCallF 1 m_points_of (aCons (cVar 0) aNil))) (bTup (bCons (bNm 2) (bCons (bNm 3) bNil))) [2, 3] (cTest (cOp pLe (cVar 2) (cVar 1))) (cVar 3)) aNil)))))
def m_most_true : List PD → R PD := mBody 2 b_most_true
def b_least_false {d : Type} : Env → d → R (Fl × d) :=
      (sSeq (sExpr (cCallF 1 m_check_things (aCons (cVar 0) aNil)))
      (sSeq (sIf (cNotT (cTest (cCallF 3 m_is_int (aCons (cVar 1) (aCons (cC (.int 0)) (aCons (cC (.int 12)) aNil))))))
      (sRaise 1)
      sNil)
      (sSeq (sSet 2 (cComp (iLst (cCallF 1 m_points_of (aCons (cVar 0) aNil))) (bTup (bCons (bNm 3) (bCons (bNm 4) bNil))) [3, 4] (cTest (cOp pGe (cVar 4) (cVar 1))) (cVar 3)))
      (sRet (cIf (cTest (cOp pNe (cVar 2) (cLst aNil))) (cCall pMin (aCons (cVar 2) aNil)) (cC .none))))))
def m_least_false : List PD → R PD := mBody 3 b_least_false
def b_common {d : Type} : Env → d → R (Fl × d) :=
      (sSeq (sPar 0 1 (aCons (cCall pAbs (aCons (cVar 0) aNil)) (aCons (cCall pAbs (aCons (cVar 1) aNil)) aNil)))
      (sSeq (sWhile (fuInt 1) (cTest (cOp pNe (cVar 1) (cC (.int 0))))
      (sPar 0 1 (aCons (cVar 1) (aCons (cOp pMod (cVar 0) (cVar 1)) aNil))))
      (sRet (cVar 0))))
def m_common : List PD → R PD := mBody 0 b_common
def b_outcomes {d : Type} : Env → d → R (Fl × d) :=
      (sSeq (sAsg (bTup (bCons (bNm 1) (bCons (bNm 2) (bCons (bNm 3) bNil)))) (cTup (aCons (cC (.int 0)) (aCons (cC (.int 0)) (aCons (cC (.int 0)) aNil)))))
      (sSeq (sFor (iLst (cVar 0)) (bTup (bCons (bNm 4) (bCons (bNm 5) bNil)))
      (sFor (iLst (cVar 0)) (bTup (bCons (bNm 6) (bCons (bNm 7) bNil)))
      (sIf (cAndT (cTest (cVar 5)) (cNotT (cTest (cVar 7))))
      (sSeq (sAug 1 (cIf (cTest (cOp pGt (cVar 4) (cVar 6))) (cC (.int 1)) (cC (.int 0))))
      (sSeq (sAug 2 (cIf (cTest (cOp pEq (cVar 4) (cVar 6))) (cC (.int 1)) (cC (.int 0))))
      (sAug 3 (cIf (cTest (cOp pLt (cVar 4) (cVar 6))) (cC (.int 1)) (cC (.int 0))))))
      sNil)))
      (sRet (cTup (aCons (cVar 1) (aCons (cVar 2) (aCons (cVar 3) aNil)))))))
def m_outcomes : List PD → R PD := mBody 7 b_outcomes
def b_double_area {d : Type} : Env → d → R (Fl × d) :=
      (sSeq (sSet 1 (cC (.int 0)))
      (sSeq (sFor (iZp (aCons (cVar 0) (aCons (cSl pSl (cVar 0) (oSome (cC (.int 1))) oNone) aNil))) (bTup (bCons (bNm 2) (bCons (bNm 3) bNil)))
      (sAug 1 (cOp pMul (cOp pSub (cOp pIx (cVar 3) (cC (.int 0))) (cOp pIx (cVar 2) (cC (.int 0)))) (cOp pAdd (cOp pIx (cVar 2) (cC (.int 1))) (cOp pIx (cVar 3) (cC (.int 1)))))))
      (sRet (cVar 1))))
def m_double_area : List PD → R PD := mBody 3 b_double_area
def b__law_true {d : Type} : Env → d → R (Fl × d) :=
      (sRet (cAndV (cUn (pIsi "bool") (cVar 0)) (cOp pEq (cVar 0) (cVar 1))))
def m__law_true : List PD → R PD := mBody 0 b__law_true
def b__law_low {d : Type} : Env → d → R (Fl × d) :=
      (sSeq (sPar 2 3 (aCons (cCall pAbs (aCons (cVar 0) aNil)) (aCons (cVar 1) aNil)))
      (sSeq (sWhile (fuInt 3) (cTest (cOp pNe (cVar 3) (cC (.int 0))))
      (sPar 2 3 (aCons (cVar 3) (aCons (cOp pMod (cVar 2) (cVar 3)) aNil))))
      (sRet (cTup (aCons (cOp pDiv (cVar 0) (cVar 2)) (aCons (cOp pDiv (cVar 1) (cVar 2)) aNil))))))
def m__law_low : List PD → R PD := mBody 2 b__law_low
def b__law_twice {d : Type} : Env → d → R (Fl × d) :=
      (sSeq (sSet 1 (cC (.int 0)))
      (sSeq (sFor (iRg1 (aCons (cOp pSub (cCall pLen (aCons (cVar 0) aNil)) (cC (.int 1))) aNil)) (bNm 2)
      (sSeq (sAsg (bTup (bCons (bTup (bCons (bNm 3) (bCons (bNm 4) bNil))) (bCons (bTup (bCons (bNm 5) (bCons (bNm 6) bNil))) bNil))) (cTup (aCons (cOp pIx (cVar 0) (cVar 2)) (aCons (cOp pIx (cVar 0) (cOp pAdd (cVar 2) (cC (.int 1)))) aNil))))
      (sSet 1 (cOp pAdd (cVar 1) (cOp pMul (cOp pSub (cVar 5) (cVar 3)) (cOp pAdd (cVar 4) (cVar 6)))))))
      (sRet (cVar 1))))
def m__law_twice : List PD → R PD := mBody 6 b__law_twice
def b_lowest {d : Type} : Env → d → R (Fl × d) :=
      (sSeq (sIf (cTest (cOp pLt (cVar 1) (cC (.int 0))))
      (sPar 0 1 (aCons (cUn pNeg (cVar 0)) (aCons (cUn pNeg (cVar 1)) aNil)))
      sNil)
      (sSeq (sSet 2 (cCallF 2 m_common (aCons (cVar 0) (aCons (cVar 1) aNil))))
      (sRet (cTup (aCons (cOp pDiv (cVar 0) (cVar 2)) (aCons (cOp pDiv (cVar 1) (cVar 2)) aNil))))))
def m_lowest : List PD → R PD := mBody 1 b_lowest
def b_check_points {d : Type} : Env → d → R (Fl × d) :=
      (sIf (cNotT (cTest (cCallF 1 m_is_points (aCons (cVar 0) aNil))))
      (sRaise 2)
      sNil)
def m_check_points : List PD → R PD := mBody 0 b_check_points
def b_check_both {d : Type} : Env → d → R (Fl × d) :=
      (sSeq (sExpr (cCallF 1 m_check_points (aCons (cVar 0) aNil)))
      (sSeq (sExpr (cCallF 1 m_check_points (aCons (cVar 1) aNil)))
      (sIf (cTest (cOp pNe (cOp pIx (cVar 0) (cUn pNeg (cC (.int 1)))) (cOp pIx (cVar 1) (cUn pNeg (cC (.int 1))))))
      (sRaise 2)
      sNil)))
def m_check_both : List PD → R PD := mBody 0 b_check_both
def b_pair_counts {d : Type} : Env → d → R (Fl × d) :=
      (sSeq (sExpr (cCallF 1 m_check_things (aCons (cVar 0) aNil)))
      (sRet (cCallF 1 m_outcomes (aCons (cVar 0) aNil))))
def m_pair_counts : List PD → R PD := mBody 0 b_pair_counts
def b_area {d : Type} : Env → d → R (Fl × d) :=
      (sSeq (sExpr (cCallF 1 m_check_things (aCons (cVar 0) aNil)))
      (sSeq (sSet 1 (cCallF 1 m_points_of (aCons (cVar 0) aNil)))
      (sSeq (sSet 2 (cOp pMul (cOp pIx (cOp pIx (cVar 1) (cUn pNeg (cC (.int 1)))) (cC (.int 0))) (cOp pIx (cOp pIx (cVar 1) (cUn pNeg (cC (.int 1)))) (cC (.int 1)))))
      (sSeq (sIf (cTest (cOp pEq (cVar 2) (cC (.int 0))))
      (sRaise 4)
      sNil)
      (sRet (cCallF 2 m_lowest (aCons (cCallF 1 m_double_area (aCons (cVar 1) aNil)) (aCons (cOp pMul (cC (.int 2)) (cVar 2)) aNil))))))))
def m_area : List PD → R PD := mBody 2 b_area
def b_in_order {d : Type} : Env → d → R (Fl × d) :=
      (sSeq (sExpr (cCallF 1 m_check_things (aCons (cVar 0) aNil)))
      (sSeq (sAsg (bTup (bCons (bNm 1) (bCons (bNm 2) (bCons (bNm 3) bNil)))) (cCallF 1 m_outcomes (aCons (cVar 0) aNil)))
      (sRet (cAndV (cOp pEq (cVar 2) (cC (.int 0))) (cOp pEq (cVar 3) (cC (.int 0)))))))
def m_in_order : List PD → R PD := mBody 3 b_in_order
def b_wrong_pairs {d : Type} : Env → d → R (Fl × d) :=
      (sSeq (sExpr (cCallF 1 m_check_things (aCons (cVar 0) aNil)))
      (sSeq (sSetF 1 (fLst aNil))
      (sSeq (sFor (iEn (cVar 0)) (bTup (bCons (bNm 2) (bCons (bTup (bCons (bNm 3) (bCons (bNm 4) bNil))) bNil)))
      (sFor (iEn (cVar 0)) (bTup (bCons (bNm 5) (bCons (bTup (bCons (bNm 6) (bCons (bNm 7) bNil))) bNil)))
      (sIf (cAndT (cTest (cVar 4)) (cAndT (cNotT (cTest (cVar 7))) (cTest (cOp pGe (cVar 6) (cVar 3)))))
      (sApp 1 (cTup (aCons (cVar 2) (aCons (cVar 5) aNil))))
      sNil)))
      (sRet (cVar 1)))))
def m_wrong_pairs : List PD → R PD := mBody 7 b_wrong_pairs
def b_area_difference {d : Type} : Env → d → R (Fl × d) :=
      (sSeq (sExpr (cCallF 2 m_check_both (aCons (cVar 0) (aCons (cVar 1) aNil))))
      (sRet (cOp pSub (cCallF 1 m_double_area (aCons (cVar 0) aNil)) (cCallF 1 m_double_area (aCons (cVar 1) aNil)))))
def m_area_difference : List PD → R PD := mBody 0 b_area_difference
def b_less {d : Type} : Env → d → R (Fl × d) :=
      (sRet (cOp pLt (cOp pMul (cOp pIx (cVar 0) (cC (.int 0))) (cOp pIx (cVar 1) (cC (.int 1)))) (cOp pMul (cOp pIx (cVar 1) (cC (.int 0))) (cOp pIx (cVar 0) (cC (.int 1))))))
def m_less : List PD → R PD := mBody 0 b_less
def b_way_turn {d : Type} : Env → d → R (Fl × d) :=
      (sSeq (sPar 3 4 (aCons (cOp pSub (cOp pIx (cVar 1) (cC (.int 0))) (cOp pIx (cVar 0) (cC (.int 0)))) (aCons (cOp pSub (cOp pIx (cVar 1) (cC (.int 1))) (cOp pIx (cVar 0) (cC (.int 1)))) aNil)))
      (sRet (cOp pSub (cOp pMul (cVar 3) (cOp pSub (cOp pIx (cVar 2) (cC (.int 1))) (cOp pIx (cVar 0) (cC (.int 1))))) (cOp pMul (cVar 4) (cOp pSub (cOp pIx (cVar 2) (cC (.int 0))) (cOp pIx (cVar 0) (cC (.int 0))))))))
def m_way_turn : List PD → R PD := mBody 2 b_way_turn
def b__law_below {d : Type} : Env → d → R (Fl × d) :=
      (sRet (cOp pLt (cOp pMul (cOp pIx (cVar 0) (cC (.int 0))) (cOp pIx (cVar 1) (cC (.int 1)))) (cOp pMul (cOp pIx (cVar 1) (cC (.int 0))) (cOp pIx (cVar 0) (cC (.int 1))))))
def m__law_below : List PD → R PD := mBody 0 b__law_below
def b_is_mean {d : Type} : Env → d → R (Fl × d) :=
      (sSeq (sIf (cOrT (cNotT (cTest (cUn (pIsi "tuple") (cVar 0)))) (cOrT (cTest (cOp pNe (cCall pLen (aCons (cVar 0) aNil)) (cC (.int 2)))) (cNotT (cTest (cCallF 3 m_is_int (aCons (cOp pIx (cVar 0) (cC (.int 1))) (aCons (cC (.int 1)) (aCons (cC (.int 1000)) aNil))))))))
      (sRet (cC (.bool false)))
      sNil)
      (sRet (cAndV (cCallF 3 m_is_int (aCons (cOp pIx (cVar 0) (cC (.int 0))) (aCons (cC (.int 0)) (aCons (cOp pMul (cVar 1) (cOp pIx (cVar 0) (cC (.int 1)))) aNil)))) (cOp pEq (cCallF 2 m_common (aCons (cOp pIx (cVar 0) (cC (.int 0))) (aCons (cOp pIx (cVar 0) (cC (.int 1))) aNil))) (cC (.int 1))))))
def m_is_mean : List PD → R PD := mBody 0 b_is_mean
def b_corners_of {d : Type} : Env → d → R (Fl × d) :=
      (sSeq (sSetF 1 (fLst aNil))
      (sSeq (sFor (iLst (cVar 0)) (bNm 2)
      (sSeq (sWhile (fuLen 1) (cAndT (cTest (cOp pGe (cCall pLen (aCons (cVar 1) aNil)) (cC (.int 2)))) (cTest (cOp pGe (cCallF 3 m_way_turn (aCons (cOp pIx (cVar 1) (cUn pNeg (cC (.int 2)))) (aCons (cOp pIx (cVar 1) (cUn pNeg (cC (.int 1)))) (aCons (cVar 2) aNil)))) (cC (.int 0)))))
      (sSetF 1 (fSl 1 oNone (oSome (cUn pNeg (cC (.int 1)))))))
      (sApp 1 (cVar 2))))
      (sRet (cVar 1))))
def m_corners_of : List PD → R PD := mBody 2 b_corners_of
def b__law_height {d : Type} : Env → d → R (Fl × d) :=
      (sSeq (sSet 2 (cTup (aCons (cC (.int 0)) (aCons (cC (.int 1)) aNil))))
      (sSeq (sFor (iLst (cVar 0)) (bTup (bCons (bNm 4) (bCons (bNm 5) bNil)))
      (sIf (cTest (cOp pEq (cOp pMul (cVar 4) (cOp pIx (cVar 1) (cC (.int 1)))) (cOp pIx (cVar 1) (cC (.int 0)))))
      (sSet 2 (cIf (cTest (cCallF 2 m__law_below (aCons (cVar 2) (aCons (cTup (aCons (cVar 5) (aCons (cC (.int 1)) aNil))) aNil)))) (cTup (aCons (cVar 5) (aCons (cC (.int 1)) aNil))) (cVar 2)))
      sNil))
      (sSeq (sFor (iRg1 (aCons (cOp pSub (cCall pLen (aCons (cVar 0) aNil)) (cC (.int 1))) aNil)) (bNm 3)
      (sSeq (sAsg (bTup (bCons (bTup (bCons (bNm 4) (bCons (bNm 5) bNil))) (bCons (bTup (bCons (bNm 7) (bCons (bNm 8) bNil))) bNil))) (cTup (aCons (cOp pIx (cVar 0) (cVar 3)) (aCons (cOp pIx (cVar 0) (cOp pAdd (cVar 3) (cC (.int 1)))) aNil))))
      (sIf (cTest (cChain pLt pLt (cOp pMul (cVar 4) (cOp pIx (cVar 1) (cC (.int 1)))) (cOp pIx (cVar 1) (cC (.int 0))) (cOp pMul (cVar 7) (cOp pIx (cVar 1) (cC (.int 1))))))
      (sSeq (sSet 6 (cCallF 2 m__law_low (aCons (cOp pAdd (cOp pMul (cOp pMul (cVar 5) (cOp pSub (cVar 7) (cVar 4))) (cOp pIx (cVar 1) (cC (.int 1)))) (cOp pMul (cOp pSub (cOp pIx (cVar 1) (cC (.int 0))) (cOp pMul (cVar 4) (cOp pIx (cVar 1) (cC (.int 1))))) (cOp pSub (cVar 8) (cVar 5)))) (aCons (cOp pMul (cOp pSub (cVar 7) (cVar 4)) (cOp pIx (cVar 1) (cC (.int 1)))) aNil))))
      (sSet 2 (cIf (cTest (cCallF 2 m__law_below (aCons (cVar 2) (aCons (cVar 6) aNil)))) (cVar 6) (cVar 2))))
      sNil)))
      (sRet (cVar 2)))))
def m__law_height : List PD → R PD := mBody 7 b__law_height
def b_height_of {d : Type} : Env → d → R (Fl × d) :=
      (sSeq (sSet 2 (cTup (aCons (cC (.int 0)) (aCons (cC (.int 1)) aNil))))
      (sSeq (sFor (iZp (aCons (cVar 0) (aCons (cSl pSl (cVar 0) (oSome (cC (.int 1))) oNone) aNil))) (bTup (bCons (bNm 3) (bCons (bNm 4) bNil)))
      (sIf (cTest (cChain pLe pLe (cOp pMul (cOp pIx (cVar 3) (cC (.int 0))) (cOp pIx (cVar 1) (cC (.int 1)))) (cOp pIx (cVar 1) (cC (.int 0))) (cOp pMul (cOp pIx (cVar 4) (cC (.int 0))) (cOp pIx (cVar 1) (cC (.int 1))))))
      (sSeq (sSet 5 (cOp pSub (cOp pIx (cVar 4) (cC (.int 0))) (cOp pIx (cVar 3) (cC (.int 0)))))
      (sSeq (sIf (cTest (cOp pEq (cVar 5) (cC (.int 0))))
      (sSet 6 (cTup (aCons (cOp pIx (cVar 4) (cC (.int 1))) (aCons (cC (.int 1)) aNil))))
      (sSeq (sSet 7 (cOp pAdd (cOp pMul (cOp pMul (cOp pIx (cVar 3) (cC (.int 1))) (cVar 5)) (cOp pIx (cVar 1) (cC (.int 1)))) (cOp pMul (cOp pSub (cOp pIx (cVar 1) (cC (.int 0))) (cOp pMul (cOp pIx (cVar 3) (cC (.int 0))) (cOp pIx (cVar 1) (cC (.int 1))))) (cOp pSub (cOp pIx (cVar 4) (cC (.int 1))) (cOp pIx (cVar 3) (cC (.int 1)))))))
      (sSet 6 (cCallF 2 m_lowest (aCons (cVar 7) (aCons (cOp pMul (cVar 5) (cOp pIx (cVar 1) (cC (.int 1)))) aNil))))))
      (sSet 2 (cIf (cTest (cCallF 2 m_less (aCons (cVar 2) (aCons (cVar 6) aNil)))) (cVar 6) (cVar 2)))))
      sNil))
      (sRet (cVar 2))))
def m_height_of : List PD → R PD := mBody 6 b_height_of
def b__law_top {d : Type} : Env → d → R (Fl × d) :=
      (sSeq (sSet 2 (cCallF 2 m__law_height (aCons (cVar 0) (aCons (cVar 1) aNil))))
      (sSeq (sFor (iLst (cVar 0)) (bTup (bCons (bNm 3) (bCons (bNm 4) bNil)))
      (sFor (iLst (cVar 0)) (bTup (bCons (bNm 5) (bCons (bNm 6) bNil)))
      (sIf (cTest (cChain pLt pLt (cOp pMul (cVar 3) (cOp pIx (cVar 1) (cC (.int 1)))) (cOp pIx (cVar 1) (cC (.int 0))) (cOp pMul (cVar 5) (cOp pIx (cVar 1) (cC (.int 1))))))
      (sSeq (sSet 7 (cCallF 2 m__law_low (aCons (cOp pAdd (cOp pMul (cOp pMul (cVar 4) (cOp pSub (cVar 5) (cVar 3))) (cOp pIx (cVar 1) (cC (.int 1)))) (cOp pMul (cOp pSub (cOp pIx (cVar 1) (cC (.int 0))) (cOp pMul (cVar 3) (cOp pIx (cVar 1) (cC (.int 1))))) (cOp pSub (cVar 6) (cVar 4)))) (aCons (cOp pMul (cOp pSub (cVar 5) (cVar 3)) (cOp pIx (cVar 1) (cC (.int 1)))) aNil))))
      (sSet 2 (cIf (cTest (cCallF 2 m__law_below (aCons (cVar 2) (aCons (cVar 7) aNil)))) (cVar 7) (cVar 2))))
      sNil)))
      (sRet (cVar 2))))
def m__law_top : List PD → R PD := mBody 6 b__law_top
def b_hull_of {d : Type} : Env → d → R (Fl × d) :=
      (sSeq (sExpr (cCallF 1 m_check_points (aCons (cVar 0) aNil)))
      (sRet (cCallF 1 m_corners_of (aCons (cVar 0) aNil))))
def m_hull_of : List PD → R PD := mBody 0 b_hull_of
def b_hull_height {d : Type} : Env → d → R (Fl × d) :=
      (sSeq (sExpr (cCallF 1 m_check_points (aCons (cVar 0) aNil)))
      (sSeq (sIf (cNotT (cTest (cCallF 2 m_is_mean (aCons (cVar 1) (aCons (cOp pIx (cOp pIx (cVar 0) (cUn pNeg (cC (.int 1)))) (cC (.int 0))) aNil)))))
      (sRaise 1)
      sNil)
      (sRet (cCallF 2 m_height_of (aCons (cCallF 1 m_corners_of (aCons (cVar 0) aNil)) (aCons (cVar 1) aNil))))))
def m_hull_height : List PD → R PD := mBody 0 b_hull_height
def b_things_with {d : Type} : Env → d → R (Fl × d) :=
      (sSeq (sExpr (cCallF 1 m_check_points (aCons (cVar 0) aNil)))
      (sSeq (sSetF 1 (fLst aNil))
      (sSeq (sFor (iRg1 (aCons (cOp pSub (cCall pLen (aCons (cVar 0) aNil)) (cC (.int 1))) aNil)) (bNm 2)
      (sSeq (sSet 3 (cOp pSub (cOp pSub (cCall pLen (aCons (cVar 0) aNil)) (cC (.int 1))) (cVar 2)))
      (sSeq (sPar 4 5 (aCons (cOp pSub (cOp pIx (cOp pIx (cVar 0) (cOp pAdd (cVar 2) (cC (.int 1)))) (cC (.int 0))) (cOp pIx (cOp pIx (cVar 0) (cVar 2)) (cC (.int 0)))) (aCons (cOp pSub (cOp pIx (cOp pIx (cVar 0) (cOp pAdd (cVar 2) (cC (.int 1)))) (cC (.int 1))) (cOp pIx (cOp pIx (cVar 0) (cVar 2)) (cC (.int 1)))) aNil)))
      (sAugL 1 (cOp pAdd (cOp pMul (cLst (aCons (cTup (aCons (cVar 3) (aCons (cC (.bool false)) aNil))) aNil)) (cVar 4)) (cOp pMul (cLst (aCons (cTup (aCons (cVar 3) (aCons (cC (.bool true)) aNil))) aNil)) (cVar 5)))))))
      (sRet (cVar 1)))))
def m_things_with : List PD → R PD := mBody 5 b_things_with
def b_hull {d : Type} : Env → d → R (Fl × d) :=
      (sSeq (sExpr (cCallF 1 m_check_things (aCons (cVar 0) aNil)))
      (sRet (cCallF 1 m_corners_of (aCons (cCallF 1 m_points_of (aCons (cVar 0) aNil)) aNil))))
def m_hull : List PD → R PD := mBody 0 b_hull
def b_waste {d : Type} : Env → d → R (Fl × d) :=
      (sSeq (sExpr (cCallF 1 m_check_things (aCons (cVar 0) aNil)))
      (sSeq (sSet 1 (cCallF 1 m_points_of (aCons (cVar 0) aNil)))
      (sRet (cOp pSub (cCallF 1 m_double_area (aCons (cCallF 1 m_corners_of (aCons (cVar 1) aNil)) aNil)) (cCallF 1 m_double_area (aCons (cVar 1) aNil))))))
def m_waste : List PD → R PD := mBody 1 b_waste
def b_is_bent {d : Type} : Env → d → R (Fl × d) :=
      (sSeq (sExpr (cCallF 1 m_check_things (aCons (cVar 0) aNil)))
      (sSeq (sSet 1 (cCallF 1 m_points_of (aCons (cVar 0) aNil)))
      (sRet (cOp pEq (cCallF 1 m_double_area (aCons (cCallF 1 m_corners_of (aCons (cVar 1) aNil)) aNil)) (cCallF 1 m_double_area (aCons (cVar 1) aNil))))))
def m_is_bent : List PD → R PD := mBody 1 b_is_bent
def b_check_cost {d : Type} : Env → d → R (Fl × d) :=
      (sIf (cNotT (cTest (cCallF 3 m_is_int (aCons (cVar 0) (aCons (cC (.int 0)) (aCons (cC (.int 1000)) aNil))))))
      (sRaise 1)
      sNil)
def m_check_cost : List PD → R PD := mBody 0 b_check_cost
def b_thresholds_of {d : Type} : Env → d → R (Fl × d) :=
      (sRet (cOp pAdd (cLst (aCons (cC (.int 100)) aNil)) (cCallF 1 m_scores_of (aCons (cVar 0) aNil))))
def m_thresholds_of : List PD → R PD := mBody 0 b_thresholds_of
def b_cost_of {d : Type} : Env → d → R (Fl × d) :=
      (sSeq (sAsg (bTup (bCons (bNm 4) (bCons (bNm 5) bNil))) (cCallF 2 m_counts (aCons (cVar 0) (aCons (cVar 1) aNil))))
      (sRet (cOp pAdd (cOp pMul (cVar 2) (cVar 4)) (cOp pMul (cVar 3) (cOp pSub (cOp pIx (cCallF 2 m_counts (aCons (cVar 0) (aCons (cC (.int 0)) aNil))) (cC (.int 1))) (cVar 5))))))
def m_cost_of : List PD → R PD := mBody 2 b_cost_of
def b_check_costs {d : Type} : Env → d → R (Fl × d) :=
      (sSeq (sExpr (cCallF 1 m_check_cost (aCons (cVar 0) aNil)))
      (sExpr (cCallF 1 m_check_cost (aCons (cVar 1) aNil))))
def m_check_costs : List PD → R PD := mBody 0 b_check_costs
def b_cost_at {d : Type} : Env → d → R (Fl × d) :=
      (sSeq (sExpr (cCallF 1 m_check_things (aCons (cVar 0) aNil)))
      (sSeq (sExpr (cCallF 1 m_check_threshold (aCons (cVar 1) aNil)))
      (sSeq (sExpr (cCallF 2 m_check_costs (aCons (cVar 2) (aCons (cVar 3) aNil))))
      (sRet (cCallF 4 m_cost_of (aCons (cVar 0) (aCons (cVar 1) (aCons (cVar 2) (aCons (cVar 3) aNil)))))))))
def m_cost_at : List PD → R PD := mBody 0 b_cost_at
def b_least_cost {d : Type} : Env → d → R (Fl × d) :=
      (sSeq (sExpr (cCallF 1 m_check_things (aCons (cVar 0) aNil)))
      (sSeq (sExpr (cCallF 2 m_check_costs (aCons (cVar 1) (aCons (cVar 2) aNil))))
      (sRet (cCall pMin (aCons (cComp (iLst (cCallF 1 m_thresholds_of (aCons (cVar 0) aNil))) (bNm 3) [3] tYesD (cCallF 4 m_cost_of (aCons (cVar 0) (aCons (cVar 3) (aCons (cVar 1) (aCons (cVar 2) aNil)))))) aNil)))))
def m_least_cost : List PD → R PD := mBody 1 b_least_cost
def b_best_points {d : Type} : Env → d → R (Fl × d) :=
      (sSeq (sExpr (cCallF 1 m_check_things (aCons (cVar 0) aNil)))
      (sSeq (sExpr (cCallF 2 m_check_costs (aCons (cVar 1) (aCons (cVar 2) aNil))))
      (sSeq (sSet 3 (cOp pIx (cCallF 2 m_counts (aCons (cVar 0) (aCons (cC (.int 0)) aNil))) (cC (.int 1))))
      (sSeq (sSet 4 (cCallF 1 m_points_of (aCons (cVar 0) aNil)))
      (sSeq (sSet 5 (cComp (iLst (cVar 4)) (bTup (bCons (bNm 6) (bCons (bNm 7) bNil))) [6, 7] tYesD (cOp pAdd (cOp pMul (cVar 1) (cVar 6)) (cOp pMul (cVar 2) (cOp pSub (cVar 3) (cVar 7))))))
      (sRet (cComp (iZp (aCons (cVar 4) (aCons (cVar 5) aNil))) (bTup (bCons (bNm 8) (bCons (bNm 9) bNil))) [8, 9] (cTest (cOp pEq (cVar 9) (cCall pMin (aCons (cVar 5) aNil)))) (cVar 8))))))))
def m_best_points : List PD → R PD := mBody 7 b_best_points
def b_best_thresholds {d : Type} : Env → d → R (Fl × d) :=
      (sSeq (sExpr (cCallF 1 m_check_things (aCons (cVar 0) aNil)))
      (sSeq (sExpr (cCallF 2 m_check_costs (aCons (cVar 1) (aCons (cVar 2) aNil))))
      (sSeq (sSet 3 (cComp (iRg1 (aCons (cC (.int 101)) aNil)) (bNm 4) [4] tYesD (cCallF 4 m_cost_of (aCons (cVar 0) (aCons (cVar 4) (aCons (cVar 1) (aCons (cVar 2) aNil)))))))
      (sRet (cComp (iRg1 (aCons (cC (.int 101)) aNil)) (bNm 4) [4] (cTest (cOp pEq (cOp pIx (cVar 3) (cVar 4)) (cCall pMin (aCons (cVar 3) aNil)))) (cVar 4))))))
def m_best_thresholds : List PD → R PD := mBody 2 b_best_thresholds
def b_cost_ranges {d : Type} : Env → d → R (Fl × d) :=
      (sSeq (sExpr (cCallF 1 m_check_things (aCons (cVar 0) aNil)))
      (sSeq (sSet 1 (cCallF 1 m_corners_of (aCons (cCallF 1 m_points_of (aCons (cVar 0) aNil)) aNil)))
      (sSeq (sSet 2 (cComp (iZp (aCons (cVar 1) (aCons (cSl pSl (cVar 1) (oSome (cC (.int 1))) oNone) aNil))) (bTup (bCons (bNm 6) (bCons (bNm 7) bNil))) [6, 7] tYesD (cTup (aCons (cOp pSub (cOp pIx (cVar 7) (cC (.int 0))) (cOp pIx (cVar 6) (cC (.int 0)))) (aCons (cOp pSub (cOp pIx (cVar 7) (cC (.int 1))) (cOp pIx (cVar 6) (cC (.int 1)))) aNil)))))
      (sSeq (sSetF 3 (fLst aNil))
      (sSeq (sFor (iEn (cVar 1)) (bTup (bCons (bNm 4) (bCons (bNm 5) bNil)))
      (sApp 3 (cTup (aCons (cVar 5) (aCons (cIf (cTest (cOp pGt (cVar 4) (cC (.int 0)))) (cOp pIx (cVar 2) (cOp pSub (cVar 4) (cC (.int 1)))) (cC .none)) (aCons (cIf (cTest (cOp pLt (cVar 4) (cCall pLen (aCons (cVar 2) aNil)))) (cOp pIx (cVar 2) (cVar 4)) (cC .none)) aNil))))))
      (sRet (cVar 3)))))))
def m_cost_ranges : List PD → R PD := mBody 7 b_cost_ranges
def b_is_ever_best {d : Type} : Env → d → R (Fl × d) :=
      (sSeq (sExpr (cCallF 1 m_check_things (aCons (cVar 0) aNil)))
      (sSeq (sSet 2 (cCallF 1 m_points_of (aCons (cVar 0) aNil)))
      (sSeq (sIf (cOrT (cNotT (cTest (cUn (pIsi "tuple") (cVar 1)))) (cTest (cOp pNotIn (cVar 1) (cVar 2))))
      (sRaise 4)
      sNil)
      (sSeq (sFor (iLst (cVar 2)) (bNm 3)
      (sSeq (sIf (cAndT (cTest (cOp pNe (cVar 3) (cVar 1))) (cAndT (cTest (cOp pLe (cOp pIx (cVar 3) (cC (.int 0))) (cOp pIx (cVar 1) (cC (.int 0))))) (cTest (cOp pGe (cOp pIx (cVar 3) (cC (.int 1))) (cOp pIx (cVar 1) (cC (.int 1)))))))
      (sRet (cC (.bool false)))
      sNil)
      (sFor (iLst (cVar 2)) (bNm 4)
      (sIf (cAndT (cTest (cChain pLt pLt (cOp pIx (cVar 3) (cC (.int 0))) (cOp pIx (cVar 1) (cC (.int 0))) (cOp pIx (cVar 4) (cC (.int 0))))) (cTest (cOp pGt (cCallF 3 m_way_turn (aCons (cVar 3) (aCons (cVar 1) (aCons (cVar 4) aNil)))) (cC (.int 0)))))
      (sRet (cC (.bool false)))
      sNil))))
      (sRet (cC (.bool true)))))))
def m_is_ever_best : List PD → R PD := mBody 3 b_is_ever_best
def b_miss_cost_for {d : Type} : Env → d → R (Fl × d) :=
      (sSeq (sExpr (cCallF 1 m_check_things (aCons (cVar 0) aNil)))
      (sSeq (sExpr (cCallF 1 m_check_cost (aCons (cVar 1) aNil)))
      (sSeq (sIf (cNotT (cTest (cCallF 3 m_is_int (aCons (cVar 2) (aCons (cC (.int 0)) (aCons (cC (.int 1000)) aNil))))))
      (sRaise 1)
      sNil)
      (sSeq (sSet 3 (cOp pIx (cCallF 2 m_counts (aCons (cVar 0) (aCons (cC (.int 0)) aNil))) (cC (.int 1))))
      (sSeq (sFor (iRg1 (aCons (cOp pAdd (cVar 2) (cC (.int 1))) aNil)) (bNm 4)
      (sSeq (sSet 5 (cCallF 1 m_points_of (aCons (cVar 0) aNil)))
      (sSeq (sSet 6 (cComp (iLst (cVar 5)) (bTup (bCons (bNm 7) (bCons (bNm 8) bNil))) [7, 8] tYesD (cOp pAdd (cOp pMul (cVar 1) (cVar 7)) (cOp pMul (cVar 4) (cOp pSub (cVar 3) (cVar 8))))))
      (sIf (cTest (cOp pEq (cCall pMax (aCons (cComp (iZp (aCons (cVar 5) (aCons (cVar 6) aNil))) (bTup (bCons (bTup (bCons (bNm 7) (bCons (bNm 8) bNil))) (bCons (bNm 9) bNil))) [9, 7, 8] (cTest (cOp pEq (cVar 9) (cCall pMin (aCons (cVar 6) aNil)))) (cVar 8)) aNil)) (cVar 3)))
      (sRet (cVar 4))
      sNil))))
      (sRet (cC .none)))))))
def m_miss_cost_for : List PD → R PD := mBody 7 b_miss_cost_for
def b_check_share {d : Type} : Env → d → R (Fl × d) :=
      (sSeq (sIf (cOrT (cNotT (cTest (cUn (pIsi "tuple") (cVar 0)))) (cOrT (cTest (cOp pNe (cCall pLen (aCons (cVar 0) aNil)) (cC (.int 2)))) (cNotT (cTest (cCallF 3 m_is_int (aCons (cOp pIx (cVar 0) (cC (.int 1))) (aCons (cC (.int 1)) (aCons (cC (.int 1000)) aNil))))))))
      (sRaise 1)
      sNil)
      (sIf (cOrT (cNotT (cTest (cCallF 3 m_is_int (aCons (cOp pIx (cVar 0) (cC (.int 0))) (aCons (cC (.int 0)) (aCons (cOp pIx (cVar 0) (cC (.int 1))) aNil)))))) (cTest (cOp pNe (cCallF 2 m_common (aCons (cOp pIx (cVar 0) (cC (.int 0))) (aCons (cOp pIx (cVar 0) (cC (.int 1))) aNil))) (cC (.int 1)))))
      (sRaise 1)
      sNil))
def m_check_share : List PD → R PD := mBody 0 b_check_share
def b_threshold_of {d : Type} : Env → d → R (Fl × d) :=
      (sSeq (sFor (iLst (cOp pAdd (cLst (aCons (cC (.int 100)) aNil)) (cCallF 1 m_scores_of (aCons (cVar 0) aNil)))) (bNm 2)
      (sIf (cTest (cOp pEq (cCallF 2 m_counts (aCons (cVar 0) (aCons (cVar 2) aNil))) (cVar 1)))
      (sRet (cVar 2))
      sNil))
      (sRet (cC (.int 100))))
def m_threshold_of : List PD → R PD := mBody 1 b_threshold_of
def b__law_add {d : Type} : Env → d → R (Fl × d) :=
      (sRet (cCallF 2 m__law_low (aCons (cOp pAdd (cOp pMul (cOp pIx (cVar 0) (cC (.int 0))) (cOp pIx (cVar 1) (cC (.int 1)))) (cOp pMul (cOp pIx (cVar 1) (cC (.int 0))) (cOp pIx (cVar 0) (cC (.int 1))))) (aCons (cOp pMul (cOp pIx (cVar 0) (cC (.int 1))) (cOp pIx (cVar 1) (cC (.int 1)))) aNil))))
def m__law_add : List PD → R PD := mBody 0 b__law_add
def b__law_mean {d : Type} : Env → d → R (Fl × d) :=
      (sSeq (sAsg (bTup (bCons (bNm 3) (bCons (bNm 4) bNil))) (cVar 2))
      (sRet (cCall pTuple (aCons (cComp (iTp (cTup (aCons (cC (.int 0)) (aCons (cC (.int 1)) aNil)))) (bNm 5) [5] tYesD (cCallF 2 m__law_low (aCons (cOp pAdd (cOp pMul (cOp pIx (cVar 0) (cVar 5)) (cVar 3)) (cOp pMul (cOp pIx (cVar 1) (cVar 5)) (cOp pSub (cVar 4) (cVar 3)))) (aCons (cVar 4) aNil)))) aNil))))
def m__law_mean : List PD → R PD := mBody 3 b__law_mean
def b_plus {d : Type} : Env → d → R (Fl × d) :=
      (sRet (cCallF 2 m_lowest (aCons (cOp pAdd (cOp pMul (cOp pIx (cVar 0) (cC (.int 0))) (cOp pIx (cVar 1) (cC (.int 1)))) (cOp pMul (cOp pIx (cVar 1) (cC (.int 0))) (cOp pIx (cVar 0) (cC (.int 1))))) (aCons (cOp pMul (cOp pIx (cVar 0) (cC (.int 1))) (cOp pIx (cVar 1) (cC (.int 1)))) aNil))))
def m_plus : List PD → R PD := mBody 0 b_plus
def b_product {d : Type} : Env → d → R (Fl × d) :=
      (sRet (cCallF 2 m_lowest (aCons (cOp pMul (cOp pIx (cVar 0) (cC (.int 0))) (cOp pIx (cVar 1) (cC (.int 0)))) (aCons (cOp pMul (cOp pIx (cVar 0) (cC (.int 1))) (cOp pIx (cVar 1) (cC (.int 1)))) aNil))))
def m_product : List PD → R PD := mBody 0 b_product
def b_check_mean {d : Type} : Env → d → R (Fl × d) :=
      (sIf (cNotT (cTest (cCallF 2 m_is_mean (aCons (cVar 0) (aCons (cVar 1) aNil)))))
      (sRaise 1)
      sNil)
def m_check_mean : List PD → R PD := mBody 0 b_check_mean
def b_mean_point {d : Type} : Env → d → R (Fl × d) :=
      (sSeq (sSet 3 (cTup (aCons (cOp pSub (cOp pIx (cVar 2) (cC (.int 1))) (cOp pIx (cVar 2) (cC (.int 0)))) (aCons (cOp pIx (cVar 2) (cC (.int 1))) aNil))))
      (sRet (cCall pTuple (aCons (cComp (iTp (cTup (aCons (cC (.int 0)) (aCons (cC (.int 1)) aNil)))) (bNm 4) [4] tYesD (cCallF 2 m_plus (aCons (cCallF 2 m_product (aCons (cTup (aCons (cOp pIx (cVar 0) (cVar 4)) (aCons (cC (.int 1)) aNil))) (aCons (cVar 2) aNil))) (aCons (cCallF 2 m_product (aCons (cTup (aCons (cOp pIx (cVar 1) (cVar 4)) (aCons (cC (.int 1)) aNil))) (aCons (cVar 3) aNil))) aNil)))) aNil))))
def m_mean_point : List PD → R PD := mBody 2 b_mean_point
def b_mixed_alarms {d : Type} : Env → d → R (Fl × d) :=
      (sSeq (sExpr (cCallF 1 m_check_things (aCons (cVar 0) aNil)))
      (sSeq (sIf (cOrT (cNotT (cTest (cCallF 3 m_is_int (aCons (cVar 1) (aCons (cC (.int 0)) (aCons (cC (.int 100)) aNil)))))) (cNotT (cTest (cCallF 3 m_is_int (aCons (cVar 2) (aCons (cC (.int 0)) (aCons (cC (.int 100)) aNil)))))))
      (sRaise 1)
      sNil)
      (sSeq (sExpr (cCallF 1 m_check_share (aCons (cVar 3) aNil)))
      (sRet (cCallF 3 m_mean_point (aCons (cCallF 2 m_counts (aCons (cVar 0) (aCons (cVar 1) aNil))) (aCons (cCallF 2 m_counts (aCons (cVar 0) (aCons (cVar 2) aNil))) (aCons (cVar 3) aNil))))))))
def m_mixed_alarms : List PD → R PD := mBody 0 b_mixed_alarms
def b_best_true {d : Type} : Env → d → R (Fl × d) :=
      (sSeq (sExpr (cCallF 1 m_check_things (aCons (cVar 0) aNil)))
      (sSeq (sExpr (cCallF 2 m_check_mean (aCons (cVar 1) (aCons (cOp pIx (cCallF 2 m_counts (aCons (cVar 0) (aCons (cC (.int 0)) aNil))) (cC (.int 0))) aNil))))
      (sRet (cCallF 2 m_height_of (aCons (cCallF 1 m_corners_of (aCons (cCallF 1 m_points_of (aCons (cVar 0) aNil)) aNil)) (aCons (cVar 1) aNil))))))
def m_best_true : List PD → R PD := mBody 0 b_best_true
def b_best_mixture {d : Type} : Env → d → R (Fl × d) :=
      (sSeq (sExpr (cCallF 1 m_check_things (aCons (cVar 0) aNil)))
      (sSeq (sExpr (cCallF 2 m_check_mean (aCons (cVar 1) (aCons (cOp pIx (cCallF 2 m_counts (aCons (cVar 0) (aCons (cC (.int 0)) aNil))) (cC (.int 0))) aNil))))
      (sSeq (sSet 2 (cCallF 1 m_corners_of (aCons (cCallF 1 m_points_of (aCons (cVar 0) aNil)) aNil)))
      (sSeq (sSet 3 (cCallF 2 m_height_of (aCons (cVar 2) (aCons (cVar 1) aNil))))
      (sSeq (sFor (iZp (aCons (cVar 2) (aCons (cSl pSl (cVar 2) (oSome (cC (.int 1))) oNone) aNil))) (bTup (bCons (bNm 4) (bCons (bNm 5) bNil)))
      (sIf (cTest (cChain pLe pLe (cOp pMul (cOp pIx (cVar 4) (cC (.int 0))) (cOp pIx (cVar 1) (cC (.int 1)))) (cOp pIx (cVar 1) (cC (.int 0))) (cOp pMul (cOp pIx (cVar 5) (cC (.int 0))) (cOp pIx (cVar 1) (cC (.int 1))))))
      (sSeq (sSet 6 (cOp pSub (cOp pIx (cVar 5) (cC (.int 0))) (cOp pIx (cVar 4) (cC (.int 0)))))
      (sSeq (sSet 7 (cIf (cTest (cOp pEq (cVar 6) (cC (.int 0)))) (cTup (aCons (cC (.int 0)) (aCons (cC (.int 1)) aNil))) (cCallF 2 m_lowest (aCons (cOp pSub (cOp pMul (cOp pIx (cVar 5) (cC (.int 0))) (cOp pIx (cVar 1) (cC (.int 1)))) (cOp pIx (cVar 1) (cC (.int 0)))) (aCons (cOp pMul (cVar 6) (cOp pIx (cVar 1) (cC (.int 1)))) aNil)))))
      (sIf (cTest (cOp pEq (cOp pIx (cCallF 3 m_mean_point (aCons (cVar 4) (aCons (cVar 5) (aCons (cVar 7) aNil)))) (cC (.int 1))) (cVar 3)))
      (sRet (cTup (aCons (cCallF 2 m_threshold_of (aCons (cVar 0) (aCons (cVar 4) aNil))) (aCons (cCallF 2 m_threshold_of (aCons (cVar 0) (aCons (cVar 5) aNil))) (aCons (cVar 7) aNil)))))
      sNil)))
      sNil))
      (sRet (cTup (aCons (cC (.int 100)) (aCons (cC (.int 100)) (aCons (cTup (aCons (cC (.int 1)) (aCons (cC (.int 1)) aNil))) aNil))))))))))
def m_best_mixture : List PD → R PD := mBody 6 b_best_mixture
def b_gain {d : Type} : Env → d → R (Fl × d) :=
      (sSeq (sExpr (cCallF 1 m_check_things (aCons (cVar 0) aNil)))
      (sSeq (sExpr (cCallF 2 m_check_mean (aCons (cVar 1) (aCons (cOp pIx (cCallF 2 m_counts (aCons (cVar 0) (aCons (cC (.int 0)) aNil))) (cC (.int 0))) aNil))))
      (sSeq (sSet 2 (cCallF 2 m_height_of (aCons (cCallF 1 m_corners_of (aCons (cCallF 1 m_points_of (aCons (cVar 0) aNil)) aNil)) (aCons (cVar 1) aNil))))
      (sSeq (sSet 3 (cCall pMax (aCons (cComp (iLst (cCallF 1 m_points_of (aCons (cVar 0) aNil))) (bTup (bCons (bNm 4) (bCons (bNm 5) bNil))) [4, 5] (cNotT (cTest (cCallF 2 m_less (aCons (cVar 1) (aCons (cTup (aCons (cVar 4) (aCons (cC (.int 1)) aNil))) aNil))))) (cVar 5)) aNil)))
      (sRet (cCallF 2 m_plus (aCons (cVar 2) (aCons (cTup (aCons (cUn pNeg (cVar 3)) (aCons (cC (.int 1)) aNil))) aNil))))))))
def m_gain : List PD → R PD := mBody 4 b_gain
def b_falls {d : Type} : Env → d → R (Fl × d) :=
      (sRet (cOp pLt (cOp pMul (cOp pIx (cVar 1) (cC (.int 3))) (cOp pAdd (cOp pIx (cVar 0) (cC (.int 2))) (cOp pIx (cVar 0) (cC (.int 3))))) (cOp pMul (cOp pIx (cVar 0) (cC (.int 3))) (cOp pAdd (cOp pIx (cVar 1) (cC (.int 2))) (cOp pIx (cVar 1) (cC (.int 3)))))))
def m_falls : List PD → R PD := mBody 0 b_falls
def b_put_together {d : Type} : Env → d → R (Fl × d) :=
      (sRet (cLst (aCons (cOp pIx (cVar 1) (cC (.int 0))) (aCons (cOp pIx (cVar 0) (cC (.int 1))) (aCons (cOp pAdd (cOp pIx (cVar 0) (cC (.int 2))) (cOp pIx (cVar 1) (cC (.int 2)))) (aCons (cOp pAdd (cOp pIx (cVar 0) (cC (.int 3))) (cOp pIx (cVar 1) (cC (.int 3)))) aNil))))))
def m_put_together : List PD → R PD := mBody 0 b_put_together
def b__law_wrong {d : Type} : Env → d → R (Fl × d) :=
      (sSeq (sSetF 1 (fLst aNil))
      (sSeq (sFor (iRg1 (aCons (cOp pSub (cCall pLen (aCons (cVar 0) aNil)) (cC (.int 1))) aNil)) (bNm 2)
      (sSeq (sPar 3 4 (aCons (cOp pIx (cVar 0) (cVar 2)) (aCons (cOp pIx (cVar 0) (cOp pAdd (cVar 2) (cC (.int 1)))) aNil)))
      (sIf (cTest (cOp pGe (cOp pMul (cOp pIx (cVar 4) (cC (.int 3))) (cOp pAdd (cOp pIx (cVar 3) (cC (.int 2))) (cOp pIx (cVar 3) (cC (.int 3))))) (cOp pMul (cOp pIx (cVar 3) (cC (.int 3))) (cOp pAdd (cOp pIx (cVar 4) (cC (.int 2))) (cOp pIx (cVar 4) (cC (.int 3)))))))
      (sApp 1 (cVar 2))
      sNil)))
      (sRet (cVar 1))))
def m__law_wrong : List PD → R PD := mBody 4 b__law_wrong
def b_levels {d : Type} : Env → d → R (Fl × d) :=
      (sSeq (sSetF 1 (fLst aNil))
      (sSeq (sSet 2 (cTup (aCons (cC (.int 0)) (aCons (cC (.int 0)) aNil))))
      (sSeq (sFor (iLst (cCallF 1 m_scores_of (aCons (cVar 0) aNil))) (bNm 3)
      (sSeq (sSet 4 (cCallF 2 m_counts (aCons (cVar 0) (aCons (cVar 3) aNil))))
      (sSeq (sApp 1 (cLst (aCons (cVar 3) (aCons (cVar 3) (aCons (cOp pSub (cOp pIx (cVar 4) (cC (.int 0))) (cOp pIx (cVar 2) (cC (.int 0)))) (aCons (cOp pSub (cOp pIx (cVar 4) (cC (.int 1))) (cOp pIx (cVar 2) (cC (.int 1)))) aNil))))))
      (sSet 2 (cVar 4)))))
      (sRet (cVar 1)))))
def m_levels : List PD → R PD := mBody 4 b_levels
def b_pooled {d : Type} : Env → d → R (Fl × d) :=
      (sSeq (sSetF 1 (fLst aNil))
      (sSeq (sFor (iLst (cCallF 1 m_levels (aCons (cVar 0) aNil))) (bNm 2)
      (sSeq (sApp 1 (cVar 2))
      (sWhile (fuLen 1) (cAndT (cTest (cOp pGe (cCall pLen (aCons (cVar 1) aNil)) (cC (.int 2)))) (cNotT (cTest (cCallF 2 m_falls (aCons (cOp pIx (cVar 1) (cUn pNeg (cC (.int 2)))) (aCons (cOp pIx (cVar 1) (cUn pNeg (cC (.int 1)))) aNil))))))
      (sSetF 1 (fCat (cSl pSl (cVar 1) oNone (oSome (cUn pNeg (cC (.int 2))))) (cLst (aCons (cCallF 2 m_put_together (aCons (cOp pIx (cVar 1) (cUn pNeg (cC (.int 2)))) (aCons (cOp pIx (cVar 1) (cUn pNeg (cC (.int 1)))) aNil))) aNil)))))))
      (sRet (cVar 1))))
def m_pooled : List PD → R PD := mBody 2 b_pooled
def b_pools {d : Type} : Env → d → R (Fl × d) :=
      (sSeq (sExpr (cCallF 1 m_check_things (aCons (cVar 0) aNil)))
      (sRet (cComp (iLst (cCallF 1 m_pooled (aCons (cVar 0) aNil))) (bNm 1) [1] tYesD (cCall pTuple (aCons (cVar 1) aNil)))))
def m_pools : List PD → R PD := mBody 1 b_pools
def b_share_of {d : Type} : Env → d → R (Fl × d) :=
      (sSeq (sExpr (cCallF 1 m_check_things (aCons (cVar 0) aNil)))
      (sSeq (sIf (cOrT (cNotT (cTest (cCallF 3 m_is_int (aCons (cVar 1) (aCons (cC (.int 0)) (aCons (cC (.int 99)) aNil)))))) (cTest (cOp pNotIn (cVar 1) (cCallF 1 m_scores_of (aCons (cVar 0) aNil)))))
      (sRet (cC .none))
      sNil)
      (sSeq (sSet 2 (cOp pIx (cComp (iLst (cCallF 1 m_pooled (aCons (cVar 0) aNil))) (bNm 3) [3] (cTest (cChain pLe pLe (cOp pIx (cVar 3) (cC (.int 0))) (cVar 1) (cOp pIx (cVar 3) (cC (.int 1))))) (cVar 3)) (cC (.int 0))))
      (sRet (cCallF 2 m_lowest (aCons (cOp pIx (cVar 2) (cC (.int 3))) (aCons (cOp pAdd (cOp pIx (cVar 2) (cC (.int 2))) (cOp pIx (cVar 2) (cC (.int 3)))) aNil)))))))
def m_share_of : List PD → R PD := mBody 2 b_share_of
def b_squared_error {d : Type} : Env → d → R (Fl × d) :=
      (sSeq (sExpr (cCallF 1 m_check_things (aCons (cVar 0) aNil)))
      (sSeq (sSet 1 (cTup (aCons (cC (.int 0)) (aCons (cC (.int 1)) aNil))))
      (sSeq (sFor (iLst (cCallF 1 m_pooled (aCons (cVar 0) aNil))) (bTup (bCons (bNm 2) (bCons (bNm 3) (bCons (bNm 4) (bCons (bNm 5) bNil)))))
      (sSeq (sSet 6 (cCallF 2 m_lowest (aCons (cOp pMul (cVar 5) (cVar 4)) (aCons (cOp pAdd (cVar 4) (cVar 5)) aNil))))
      (sSet 1 (cCallF 2 m_lowest (aCons (cOp pAdd (cOp pMul (cOp pIx (cVar 1) (cC (.int 0))) (cOp pIx (cVar 6) (cC (.int 1)))) (cOp pMul (cOp pIx (cVar 6) (cC (.int 0))) (cOp pIx (cVar 1) (cC (.int 1))))) (aCons (cOp pMul (cOp pIx (cVar 1) (cC (.int 1))) (cOp pIx (cVar 6) (cC (.int 1)))) aNil))))))
      (sRet (cVar 1)))))
def m_squared_error : List PD → R PD := mBody 6 b_squared_error
def b_is_pooled {d : Type} : Env → d → R (Fl × d) :=
      (sSeq (sExpr (cCallF 1 m_check_things (aCons (cVar 0) aNil)))
      (sRet (cOp pEq (cCall pLen (aCons (cCallF 1 m_pooled (aCons (cVar 0) aNil)) aNil)) (cCall pLen (aCons (cCallF 1 m_scores_of (aCons (cVar 0) aNil)) aNil)))))
def m_is_pooled : List PD → R PD := mBody 0 b_is_pooled
def b_shares {d : Type} : Env → d → R (Fl × d) :=
      (sSeq (sExpr (cCallF 1 m_check_things (aCons (cVar 0) aNil)))
      (sRet (cComp (iLst (cVar 0)) (bTup (bCons (bNm 1) (bCons (bNm 2) bNil))) [1, 2] tYesD (cCallF 2 m_share_of (aCons (cVar 0) (aCons (cVar 1) aNil))))))
def m_shares : List PD → R PD := mBody 2 b_shares
def b__law_minus {d : Type} : Env → d → R (Fl × d) :=
      (sRet (cTup (aCons (cOp pSub (cC (.int 0)) (cOp pIx (cVar 0) (cC (.int 0)))) (aCons (cOp pIx (cVar 0) (cC (.int 1))) aNil))))
def m__law_minus : List PD → R PD := mBody 0 b__law_minus
def b_height {d : Type} : Env → d → R (Fl × d) :=
      (sSeq (sSet 2 (cTup (aCons (cC (.int 0)) (aCons (cC (.int 1)) aNil))))
      (sSeq (sFor (iZp (aCons (cVar 0) (aCons (cSl pSl (cVar 0) (oSome (cC (.int 1))) oNone) aNil))) (bTup (bCons (bNm 3) (bCons (bNm 4) bNil)))
      (sIf (cTest (cChain pLe pLe (cOp pMul (cOp pIx (cVar 3) (cC (.int 0))) (cOp pIx (cVar 1) (cC (.int 1)))) (cOp pIx (cVar 1) (cC (.int 0))) (cOp pMul (cOp pIx (cVar 4) (cC (.int 0))) (cOp pIx (cVar 1) (cC (.int 1))))))
      (sSeq (sSet 5 (cOp pSub (cOp pIx (cVar 4) (cC (.int 0))) (cOp pIx (cVar 3) (cC (.int 0)))))
      (sSeq (sIf (cTest (cOp pEq (cVar 5) (cC (.int 0))))
      (sSet 6 (cTup (aCons (cOp pIx (cVar 4) (cC (.int 1))) (aCons (cC (.int 1)) aNil))))
      (sSet 6 (cCallF 2 m_lowest (aCons (cOp pAdd (cOp pMul (cOp pMul (cOp pIx (cVar 3) (cC (.int 1))) (cVar 5)) (cOp pIx (cVar 1) (cC (.int 1)))) (cOp pMul (cOp pSub (cOp pIx (cVar 1) (cC (.int 0))) (cOp pMul (cOp pIx (cVar 3) (cC (.int 0))) (cOp pIx (cVar 1) (cC (.int 1))))) (cOp pSub (cOp pIx (cVar 4) (cC (.int 1))) (cOp pIx (cVar 3) (cC (.int 1)))))) (aCons (cOp pMul (cVar 5) (cOp pIx (cVar 1) (cC (.int 1)))) aNil)))))
      (sSet 2 (cIf (cTest (cCallF 2 m_less (aCons (cVar 2) (aCons (cVar 6) aNil)))) (cVar 6) (cVar 2)))))
      sNil))
      (sRet (cVar 2))))
def m_height : List PD → R PD := mBody 5 b_height
def b_height_ahead {d : Type} : Env → d → R (Fl × d) :=
      (sSeq (sSet 2 (cComp (iLst (cVar 0)) (bTup (bCons (bNm 3) (bCons (bNm 4) bNil))) [3, 4] (cTest (cOp pEq (cVar 3) (cVar 1))) (cTup (aCons (cVar 4) (aCons (cC (.int 1)) aNil)))))
      (sRet (cIf (cTest (cOp pNe (cVar 2) (cLst aNil))) (cOp pIx (cVar 2) (cC (.int 0))) (cCallF 2 m_height (aCons (cVar 0) (aCons (cTup (aCons (cVar 1) (aCons (cC (.int 1)) aNil))) aNil))))))
def m_height_ahead : List PD → R PD := mBody 3 b_height_ahead
def b_is_above {d : Type} : Env → d → R (Fl × d) :=
      (sSeq (sExpr (cCallF 2 m_check_both (aCons (cVar 0) (aCons (cVar 1) aNil))))
      (sSeq (sFor (iRg1 (aCons (cOp pAdd (cOp pIx (cOp pIx (cVar 0) (cUn pNeg (cC (.int 1)))) (cC (.int 0))) (cC (.int 1))) aNil)) (bNm 2)
      (sSeq (sIf (cTest (cCallF 2 m_less (aCons (cCallF 2 m_height (aCons (cVar 0) (aCons (cTup (aCons (cVar 2) (aCons (cC (.int 1)) aNil))) aNil))) (aCons (cCallF 2 m_height (aCons (cVar 1) (aCons (cTup (aCons (cVar 2) (aCons (cC (.int 1)) aNil))) aNil))) aNil))))
      (sRet (cC (.bool false)))
      sNil)
      (sIf (cAndT (cTest (cOp pGt (cVar 2) (cC (.int 0)))) (cTest (cCallF 2 m_less (aCons (cCallF 2 m_height_ahead (aCons (cVar 0) (aCons (cVar 2) aNil))) (aCons (cCallF 2 m_height_ahead (aCons (cVar 1) (aCons (cVar 2) aNil))) aNil)))))
      (sRet (cC (.bool false)))
      sNil)))
      (sRet (cC (.bool true)))))
def m_is_above : List PD → R PD := mBody 1 b_is_above
def b_first_below {d : Type} : Env → d → R (Fl × d) :=
      (sSeq (sExpr (cCallF 2 m_check_both (aCons (cVar 0) (aCons (cVar 1) aNil))))
      (sSeq (sFor (iRg1 (aCons (cOp pAdd (cOp pIx (cOp pIx (cVar 0) (cUn pNeg (cC (.int 1)))) (cC (.int 0))) (cC (.int 1))) aNil)) (bNm 2)
      (sIf (cTest (cCallF 2 m_less (aCons (cCallF 2 m_height (aCons (cVar 0) (aCons (cTup (aCons (cVar 2) (aCons (cC (.int 1)) aNil))) aNil))) (aCons (cCallF 2 m_height (aCons (cVar 1) (aCons (cTup (aCons (cVar 2) (aCons (cC (.int 1)) aNil))) aNil))) aNil))))
      (sRet (cVar 2))
      sNil))
      (sRet (cC .none))))
def m_first_below : List PD → R PD := mBody 1 b_first_below
def b__law_areas {d : Type} : Env → d → R (Fl × d) :=
      (sSeq (sSet 5 (cCallF 2 m_area_difference (aCons (cVar 2) (aCons (cVar 3) aNil))))
      (sSeq (sIf (cTest (cOp pNe (cVar 5) (cOp pAdd (cOp pMul (cCallF 2 m_area_difference (aCons (cVar 3) (aCons (cLst (aCons (cTup (aCons (cC (.int 0)) (aCons (cC (.int 0)) aNil))) (aCons (cOp pIx (cVar 2) (cUn pNeg (cC (.int 1)))) aNil))) aNil))) (cOp pSub (cC (.int 0)) (cC (.int 1)))) (cCallF 2 m_area_difference (aCons (cVar 2) (aCons (cLst (aCons (cTup (aCons (cC (.int 0)) (aCons (cC (.int 0)) aNil))) (aCons (cOp pIx (cVar 2) (cUn pNeg (cC (.int 1)))) aNil))) aNil))))))
      (sRet (cC (.bool false)))
      sNil)
      (sSeq (sIf (cOrT (cAndT (cTest (cVar 4)) (cTest (cOp pLt (cVar 5) (cC (.int 0))))) (cOrT (cTest (cOp pIsNot (cCallF 2 m_is_above (aCons (cCallF 1 m_hull (aCons (cVar 0) aNil)) (aCons (cVar 2) aNil))) (cC (.bool true)))) (cTest (cOp pIsNot (cCallF 2 m_is_above (aCons (cVar 2) (aCons (cVar 2) aNil))) (cC (.bool true))))))
      (sRet (cC (.bool false)))
      sNil)
      (sSeq (sIf (cAndT (cTest (cOp pIs (cCallF 2 m_is_above (aCons (cVar 2) (aCons (cVar 3) aNil))) (cC (.bool true)))) (cAndT (cTest (cOp pIs (cCallF 2 m_is_above (aCons (cVar 3) (aCons (cVar 2) aNil))) (cC (.bool true)))) (cTest (cOp pNe (cVar 5) (cC (.int 0))))))
      (sRet (cC (.bool false)))
      sNil)
      (sSeq (sAsg (bTup (bCons (bNm 6) (bCons (bNm 7) (bCons (bNm 8) bNil)))) (cCallF 1 m_pair_counts (aCons (cVar 0) aNil)))
      (sSeq (sAsg (bTup (bCons (bNm 9) (bCons (bNm 10) (bCons (bNm 11) bNil)))) (cCallF 1 m_pair_counts (aCons (cVar 1) aNil)))
      (sRet (cAndV (cOp pEq (cVar 5) (cOp pSub (cOp pSub (cOp pAdd (cOp pMul (cC (.int 2)) (cVar 6)) (cVar 7)) (cOp pMul (cC (.int 2)) (cVar 9))) (cVar 10))) (cOp pEq (cCallF 2 m_area_difference (aCons (cCallF 1 m_hull (aCons (cVar 0) aNil)) (aCons (cVar 2) aNil))) (cCallF 1 m_waste (aCons (cVar 0) aNil)))))))))))
def m__law_areas : List PD → R PD := mBody 7 b__law_areas
def b_joined {d : Type} : Env → d → R (Fl × d) :=
      (sSeq (sExpr (cCallF 1 m_check_things (aCons (cVar 0) aNil)))
      (sSeq (sExpr (cCallF 1 m_check_things (aCons (cVar 1) aNil)))
      (sSeq (sSet 2 (cOp pAdd (cVar 0) (cVar 1)))
      (sSeq (sExpr (cCallF 1 m_check_things (aCons (cVar 2) aNil)))
      (sRet (cVar 2))))))
def m_joined : List PD → R PD := mBody 1 b_joined
def b_turned_over {d : Type} : Env → d → R (Fl × d) :=
      (sSeq (sExpr (cCallF 1 m_check_things (aCons (cVar 0) aNil)))
      (sRet (cComp (iLst (cVar 0)) (bTup (bCons (bNm 1) (bCons (bNm 2) bNil))) [1, 2] tYesD (cTup (aCons (cOp pSub (cC (.int 99)) (cVar 1)) (aCons (cVar 2) aNil))))))
def m_turned_over : List PD → R PD := mBody 2 b_turned_over
def b_exchanged {d : Type} : Env → d → R (Fl × d) :=
      (sSeq (sExpr (cCallF 1 m_check_things (aCons (cVar 0) aNil)))
      (sRet (cComp (iLst (cVar 0)) (bTup (bCons (bNm 1) (bCons (bNm 2) bNil))) [1, 2] tYesD (cTup (aCons (cVar 1) (aCons (cUn pNot (cVar 2)) aNil))))))
def m_exchanged : List PD → R PD := mBody 2 b_exchanged
def b_led {d : Type} : Env → d → R (Fl × d) :=
      (sSeq (sExpr (cCallF 1 m_check_things (aCons (cVar 0) aNil)))
      (sSeq (sIf (cOrT (cNotT (cTest (cUn (pIsi "tuple") (cVar 1)))) (cOrT (cTest (cOp pNe (cCall pLen (aCons (cVar 1) aNil)) (cC (.int 100)))) (cNotT (cTest (cCall pAll (aCons (cComp (iTp (cVar 1)) (bNm 2) [2] tYesD (cCallF 3 m_is_int (aCons (cVar 2) (aCons (cC (.int 0)) (aCons (cC (.int 99)) aNil))))) aNil))))))
      (sRaise 1)
      sNil)
      (sSeq (sIf (cNotT (cTest (cCall pAll (aCons (cComp (iRg1 (aCons (cC (.int 99)) aNil)) (bNm 4) [4] tYesD (cOp pLe (cOp pIx (cVar 1) (cVar 4)) (cOp pIx (cVar 1) (cOp pAdd (cVar 4) (cC (.int 1)))))) aNil))))
      (sRaise 1)
      sNil)
      (sRet (cComp (iLst (cVar 0)) (bTup (bCons (bNm 2) (bCons (bNm 3) bNil))) [2, 3] tYesD (cTup (aCons (cOp pIx (cVar 1) (cVar 2)) (aCons (cVar 3) aNil))))))))
def m_led : List PD → R PD := mBody 3 b_led
def b_check_numbers {d : Type} : Env → d → R (Fl × d) :=
      (sSeq (sIf (cOrT (cNotT (cTest (cCallF 3 m_is_int (aCons (cVar 0) (aCons (cC (.int 0)) (aCons (cC (.int 4)) aNil)))))) (cNotT (cTest (cCallF 3 m_is_int (aCons (cVar 1) (aCons (cC (.int 0)) (aCons (cC (.int 4)) aNil)))))))
      (sRaise 1)
      sNil)
      (sIf (cTest (cOp pEq (cOp pAdd (cVar 0) (cVar 1)) (cC (.int 0))))
      (sRaise 1)
      sNil))
def m_check_numbers : List PD → R PD := mBody 0 b_check_numbers
def b_check_text {d : Type} : Env → d → R (Fl × d) :=
      (sIf (cNotT (cTest (cUn (pIsi "str") (cVar 0))))
      (sRaise 3)
      sNil)
def m_check_text : List PD → R PD := mBody 0 b_check_text
def b__law_two {d : Type} : Env → d → R (Fl × d) :=
      (sSeq (sIf (cTest (cOp pEq (cVar 0) (cC (.int 0))))
      (sRet (cCallF 2 m_alarms_at (aCons (cVar 1) (aCons (cVar 2) aNil))))
      sNil)
      (sSeq (sIf (cTest (cOp pEq (cVar 0) (cC (.int 1))))
      (sRet (cCallF 2 m_most_true (aCons (cVar 1) (aCons (cVar 2) aNil))))
      sNil)
      (sSeq (sIf (cTest (cOp pEq (cVar 0) (cC (.int 2))))
      (sRet (cCallF 2 m_least_false (aCons (cVar 1) (aCons (cVar 2) aNil))))
      sNil)
      (sSeq (sIf (cTest (cOp pEq (cVar 0) (cC (.int 3))))
      (sRet (cCallF 3 m_least_cost (aCons (cVar 1) (aCons (cVar 2) (aCons (cVar 3) aNil)))))
      sNil)
      (sSeq (sIf (cTest (cOp pEq (cVar 0) (cC (.int 4))))
      (sRet (cCallF 3 m_best_points (aCons (cVar 1) (aCons (cVar 2) (aCons (cVar 3) aNil)))))
      sNil)
      (sSeq (sIf (cTest (cOp pEq (cVar 0) (cC (.int 5))))
      (sRet (cCallF 3 m_best_thresholds (aCons (cVar 1) (aCons (cVar 2) (aCons (cVar 3) aNil)))))
      sNil)
      (sSeq (sIf (cTest (cOp pEq (cVar 0) (cC (.int 6))))
      (sRet (cCallF 3 m_miss_cost_for (aCons (cVar 1) (aCons (cVar 2) (aCons (cVar 3) aNil)))))
      sNil)
      (sSeq (sIf (cTest (cOp pEq (cVar 0) (cC (.int 7))))
      (sRet (cCallF 4 m_cost_at (aCons (cVar 1) (aCons (cVar 2) (aCons (cVar 3) (aCons (cC (.int 1)) aNil))))))
      sNil)
      (sSeq (sIf (cTest (cOp pEq (cVar 0) (cC (.int 8))))
      (sRet (cCallF 4 m_mixed_alarms (aCons (cVar 1) (aCons (cVar 2) (aCons (cVar 3) (aCons (cTup (aCons (cC (.int 1)) (aCons (cC (.int 2)) aNil))) aNil))))))
      sNil)
      (sSeq (sIf (cTest (cOp pEq (cVar 0) (cC (.int 9))))
      (sRet (cCallF 2 m_best_true (aCons (cVar 1) (aCons (cVar 2) aNil))))
      sNil)
      (sSeq (sIf (cTest (cOp pEq (cVar 0) (cC (.int 10))))
      (sRet (cCallF 2 m_best_mixture (aCons (cVar 1) (aCons (cVar 2) aNil))))
      sNil)
      (sSeq (sIf (cTest (cOp pEq (cVar 0) (cC (.int 11))))
      (sRet (cCallF 2 m_gain (aCons (cVar 1) (aCons (cVar 2) aNil))))
      sNil)
      (sSeq (sIf (cTest (cOp pEq (cVar 0) (cC (.int 12))))
      (sRet (cCallF 2 m_joined (aCons (cVar 1) (aCons (cLst (aCons (cTup (aCons (cC (.int 1)) (aCons (cC (.bool true)) aNil))) aNil)) aNil))))
      sNil)
      (sRet (cIf (cTest (cOp pEq (cVar 0) (cC (.int 13)))) (cCallF 2 m_share_of (aCons (cVar 1) (aCons (cVar 2) aNil))) (cCallF 2 m_is_ever_best (aCons (cVar 1) (aCons (cVar 2) aNil))))))))))))))))))
def m__law_two : List PD → R PD := mBody 0 b__law_two
def b__law_first {d : Type} : Env → d → R (Fl × d) :=
      (sSeq (sIf (cOrT (cTest (cOp pNe (cCallF 1 m_curve (aCons (cVar 0) aNil)) (cLst (aCons (cTup (aCons (cC (.int 0)) (aCons (cC (.int 0)) aNil))) (aCons (cTup (aCons (cC (.int 0)) (aCons (cC (.int 1)) aNil))) (aCons (cTup (aCons (cC (.int 1)) (aCons (cC (.int 1)) aNil))) (aCons (cTup (aCons (cC (.int 2)) (aCons (cC (.int 2)) aNil))) (aCons (cTup (aCons (cC (.int 3)) (aCons (cC (.int 2)) aNil))) aNil)))))))) (cOrT (cTest (cOp pNe (cCallF 2 m_most_true (aCons (cVar 0) (aCons (cC (.int 1)) aNil))) (cC (.int 1)))) (cTest (cOp pNe (cCallF 1 m_pair_counts (aCons (cVar 0) aNil)) (cTup (aCons (cC (.int 4)) (aCons (cC (.int 1)) (aCons (cC (.int 1)) aNil))))))))
      (sRet (cC (.bool false)))
      sNil)
      (sSeq (sIf (cOrT (cTest (cOp pNe (cCallF 1 m_hull (aCons (cVar 0) aNil)) (cLst (aCons (cTup (aCons (cC (.int 0)) (aCons (cC (.int 0)) aNil))) (aCons (cTup (aCons (cC (.int 0)) (aCons (cC (.int 1)) aNil))) (aCons (cTup (aCons (cC (.int 2)) (aCons (cC (.int 2)) aNil))) (aCons (cTup (aCons (cC (.int 3)) (aCons (cC (.int 2)) aNil))) aNil))))))) (cTest (cOp pNe (cCallF 3 m_best_points (aCons (cVar 0) (aCons (cC (.int 1)) (aCons (cC (.int 2)) aNil)))) (cLst (aCons (cTup (aCons (cC (.int 0)) (aCons (cC (.int 1)) aNil))) (aCons (cTup (aCons (cC (.int 2)) (aCons (cC (.int 2)) aNil))) aNil))))))
      (sRet (cC (.bool false)))
      sNil)
      (sRet (cAndV (cOp pEq (cCallF 3 m_miss_cost_for (aCons (cVar 0) (aCons (cC (.int 1)) (aCons (cC (.int 9)) aNil)))) (cC (.int 2))) (cOp pEq (cCallF 2 m_best_true (aCons (cVar 0) (aCons (cTup (aCons (cC (.int 1)) (aCons (cC (.int 1)) aNil))) aNil))) (cTup (aCons (cC (.int 3)) (aCons (cC (.int 2)) aNil))))))))
def m__law_first : List PD → R PD := mBody 0 b__law_first
end DL

/-! M0: loops and comprehensions evaluated -/
namespace DL
open PySem PySem.Spec PyProof.Rows L2
/-- a comprehension without effects -/
theorem compGo_pure {d a : Type} {b : Bd} {own : List Nat} {t : Env → d → R (Bool × d)} {f : Env → d → R (PD × d)} {ρ : Env} (enc : a → PD) (keep : a → Bool) (val : a → PD) (s : d) : ∀ (xs : List a),
    (∀ x ∈ xs, ∃ ρ1, b (enc x) (wipeD ρ own) = some ρ1 ∧ t ρ1 s = .ok (keep x, s) ∧ (keep x = true → f ρ1 s = .ok (val x, s) ∧ isD (val x) = true)) → compGo b own t f ρ (xs.map enc) s = .ok ((xs.filter keep).map val, s)
  | [], _ => rfl
  | x :: xs, h => by
    obtain ⟨ρ1, h1, h2, h3⟩ := h x (by simp)
    have ih := compGo_pure (b := b) (own := own) (t := t) (f := f) (ρ := ρ) enc keep val s xs fun y hy => h y (List.mem_cons_of_mem _ hy)
    show compGo b own t f ρ (enc x :: xs.map enc) s = _
    unfold compGo
    rw [h1]
    dsimp only
    rw [h2, noX_ok, bnd_ok]
    cases hk : keep x with
    | true =>
      obtain ⟨h4, h5⟩ := h3 hk
      rw [if_pos rfl, h4, noX_ok, bnd_ok, if_pos h5, ih, bnd_ok, List.filter_cons_of_pos hk]
      rfl
    | false =>
      rw [if_neg (by simp), ih, List.filter_cons_of_neg (by simp [hk])]
theorem cComp_pure {d a : Type} {it : Env → d → R (List PD × d)} {b : Bd} {own : List Nat} {t : Env → d → R (Bool × d)} {f : Env → d → R (PD × d)} {ρ : Env} {s : d} (xs : List a) (enc : a → PD) (keep : a → Bool) (val : a → PD) (hi : it ρ s = .ok (xs.map enc, s)) (hl : xs.length ≤ 100000)
    (h : ∀ x ∈ xs, ∃ ρ1, b (enc x) (wipeD ρ own) = some ρ1 ∧ t ρ1 s = .ok (keep x, s) ∧ (keep x = true → f ρ1 s = .ok (val x, s) ∧ isD (val x) = true)) : cComp it b own t f ρ s = .ok (.list ((xs.filter keep).map val), s) := by
  unfold cComp
  rw [hi, bnd_ok, if_pos (by rw [List.length_map]; exact hl), compGo_pure enc keep val s xs h, bnd_ok]
/-- .. no test -/
theorem cComp_map {d a : Type} {it : Env → d → R (List PD × d)} {b : Bd} {own : List Nat} {f : Env → d → R (PD × d)} {ρ : Env} {s : d} (xs : List a) (enc : a → PD) (val : a → PD) (hi : it ρ s = .ok (xs.map enc, s)) (hl : xs.length ≤ 100000)
    (h : ∀ x ∈ xs, ∃ ρ1, b (enc x) (wipeD ρ own) = some ρ1 ∧ f ρ1 s = .ok (val x, s) ∧ isD (val x) = true) : cComp it b own tYesD f ρ s = .ok (.list (xs.map val), s) := by
  have := cComp_pure (t := tYesD) (f := f) (b := b) (own := own) (ρ := ρ) xs enc (fun _ => true) val hi hl fun x hx => by
    obtain ⟨ρ1, h1, h2⟩ := h x hx
    exact ⟨ρ1, h1, rfl, fun _ => h2⟩
  rw [this, List.filter_eq_self.mpr (by simp)]
/-- a for loop whose every turn goes on: the state by an invariant form -/
theorem sForGo_fold {d a b : Type} {bd : Bd} {body : Env → d → R (Fl × d)} (enc : a → PD) (env : b → Env) (step : b → a → b) (s : d) : ∀ (xs : List a) (st : b),
    (∀ (st : b) (x : a), x ∈ xs → ∃ ρ1, bd (enc x) (env st) = some ρ1 ∧ body ρ1 s = .ok (.nx (env (step st x)), s)) → sForGo bd body (xs.map enc) (env st) s = .ok (.nx (env (xs.foldl step st)), s)
  | [], st, _ => rfl
  | x :: xs, st, h => by
    obtain ⟨ρ1, h1, h2⟩ := h st x (by simp)
    show sForGo bd body (enc x :: xs.map enc) (env st) s = _
    unfold sForGo
    rw [h1]
    dsimp only
    rw [h2]
    dsimp only
    exact sForGo_fold enc env step s xs (step st x) fun st y hy => h st y (List.mem_cons_of_mem _ hy)
/-- .. by what holds between two turns -/
theorem sForGo_inv {d a : Type} {bd : Bd} {body : Env → d → R (Fl × d)} (enc : a → PD) (Inv : List a → Env → d → Prop) : ∀ (xs pre : List a) (ρ : Env) (s : d), Inv pre ρ s →
    (∀ (p : List a) (x : a) (q : List a) ρ s, pre ++ xs = p ++ x :: q → Inv p ρ s → ∃ ρ1 ρ2 s2, bd (enc x) ρ = some ρ1 ∧ body ρ1 s = .ok (.nx ρ2, s2) ∧ Inv (p ++ [x]) ρ2 s2) →
    ∃ ρ' s', sForGo bd body (xs.map enc) ρ s = .ok (.nx ρ', s') ∧ Inv (pre ++ xs) ρ' s'
  | [], pre, ρ, s, h0, _ => ⟨ρ, s, rfl, by rw [List.append_nil]; exact h0⟩
  | x :: xs, pre, ρ, s, h0, h => by
    obtain ⟨ρ1, ρ2, s2, h1, h2, h3⟩ := h pre x xs ρ s rfl h0
    obtain ⟨ρ', s', e, i⟩ := sForGo_inv (bd := bd) (body := body) enc Inv xs (pre ++ [x]) ρ2 s2 h3 fun p y q ρ s hq => h p y q ρ s (by rw [← hq]; simp)
    refine ⟨ρ', s', ?_, by rw [List.append_assoc] at i; exact i⟩
    show sForGo bd body (enc x :: xs.map enc) ρ s = _
    unfold sForGo
    rw [h1]
    dsimp only
    rw [h2]
    exact e
/-- a loop that leaves at the first item of a kind -/
theorem sForGo_find {d a : Type} {bd : Bd} {body : Env → d → R (Fl × d)} (enc : a → PD) (p : a → Bool) (val : a → PD) (Ok : Env → Prop) (s : d) : ∀ (xs : List a) (ρ : Env), Ok ρ →
    (∀ x ∈ xs, ∀ ρ, Ok ρ → ∃ ρ1, bd (enc x) ρ = some ρ1 ∧ (p x = true → body ρ1 s = .ok (.rt (val x), s)) ∧ (p x = false → ∃ ρ2, Ok ρ2 ∧ body ρ1 s = .ok (.nx ρ2, s))) →
    match xs.find? p with
    | some x => sForGo bd body (xs.map enc) ρ s = .ok (.rt (val x), s)
    | none => ∃ ρ', Ok ρ' ∧ sForGo bd body (xs.map enc) ρ s = .ok (.nx ρ', s)
  | [], ρ, h0, _ => ⟨ρ, h0, rfl⟩
  | x :: xs, ρ, h0, h => by
    obtain ⟨ρ1, h1, h2, h3⟩ := h x (by simp) ρ h0
    cases hp : p x with
    | true =>
      rw [List.find?_cons_of_pos hp]
      show sForGo bd body (enc x :: xs.map enc) ρ s = _
      unfold sForGo
      rw [h1]
      dsimp only
      rw [h2 hp]
    | false =>
      obtain ⟨ρ2, k2, e2⟩ := h3 hp
      rw [List.find?_cons_of_neg (by simp [hp])]
      have ih := sForGo_find (bd := bd) (body := body) enc p val Ok s xs ρ2 k2 fun y hy => h y (List.mem_cons_of_mem _ hy)
      have e : sForGo bd body (enc x :: xs.map enc) ρ s = sForGo bd body (xs.map enc) ρ2 s := by
        conv => lhs; unfold sForGo
        rw [h1]
        dsimp only
        rw [e2]
      show match xs.find? p with
        | some y => sForGo bd body (enc x :: xs.map enc) ρ s = _
        | none => ∃ ρ', Ok ρ' ∧ sForGo bd body (enc x :: xs.map enc) ρ s = _
      rw [e]
      exact ih
/-- a comprehension that changes the state -/
theorem compGo_eff {d a : Type} {b : Bd} {own : List Nat} {f : Env → d → R (PD × d)} {ρ : Env} (enc : a → PD) (I : d → Prop) (P : PD → Prop) : ∀ (xs : List a) (s : d), I s →
    (∀ x ∈ xs, ∀ s, I s → ∃ ρ1 y s', b (enc x) (wipeD ρ own) = some ρ1 ∧ f ρ1 s = .ok (y, s') ∧ isD y = true ∧ P y ∧ I s') → ∃ ys s', compGo b own tYesD f ρ (xs.map enc) s = .ok (ys, s') ∧ ys.length = xs.length ∧ (∀ y ∈ ys, P y) ∧ I s'
  | [], s, hs, _ => ⟨[], s, rfl, rfl, (fun y h => by cases h), hs⟩
  | x :: xs, s, hs, h => by
    obtain ⟨ρ1, y, s1, h1, h2, h3, h4, h5⟩ := h x (by simp) s hs
    obtain ⟨ys, s2, e, l, p, i⟩ := compGo_eff (b := b) (own := own) (f := f) (ρ := ρ) enc I P xs s1 h5 fun z hz => h z (List.mem_cons_of_mem _ hz)
    refine ⟨y :: ys, s2, ?_, by simp [l], fun z hz => ?_, i⟩
    · show compGo b own tYesD f ρ (enc x :: xs.map enc) s = _
      unfold compGo
      rw [h1]
      dsimp only
      rw [show tYesD ρ1 s = .ok (true, s) from rfl, noX_ok, bnd_ok, if_pos rfl, h2, noX_ok, bnd_ok, if_pos h3, e, bnd_ok]
    · rcases List.mem_cons.mp hz with q | q
      · rw [q]; exact h4
      · exact p z q
abbrev Th := Int × Bool
abbrev Pt := Int × Int
def eT (x : Th) : PD := .tuple [.int x.1, .bool x.2]
def eP (x : Pt) : PD := .tuple [.int x.1, .int x.2]
def encT (T : List Th) : PD := .list (T.map eT)
def encP (P : List Pt) : PD := .list (P.map eP)
theorem isD_int (i : Int) : isD (.int i) = true := rfl
theorem isD_bool (i : Bool) : isD (.bool i) = true := rfl
theorem isD_none : isD .none = true := rfl
theorem isD_str (i : Str) : isD (.str i) = true := rfl
theorem isD_list (i : List PD) : isD (.list i) = true := rfl
theorem isD_tuple (i : List PD) : isD (.tuple i) = true := rfl
theorem isD_eP (p : Pt) : isD (eP p) = true := rfl
theorem isD_eT (p : Th) : isD (eT p) = true := rfl
theorem isD_encP (p : List Pt) : isD (encP p) = true := rfl
theorem isD_encT (p : List Th) : isD (encT p) = true := rfl
theorem isOk_ok (d : PD) : isOk (.ok d) = .ok d := rfl
theorem isOk_exc (c : Nat) : isOk (.exc c) = .bad := rfl
theorem isOk_bad : isOk .bad = .bad := rfl
theorem isL_list (xs : List PD) : isL (.list xs) = true := rfl
theorem isL_encP (xs : List Pt) : isL (encP xs) = true := rfl
theorem szL : sizeLine = 16777216 := rfl
theorem pLe_i (i j : Int) : pLe (.int i) (.int j) = .ok (.bool (decide (i ≤ j))) := rfl
theorem pLt_i (i j : Int) : pLt (.int i) (.int j) = .ok (.bool (decide (i < j))) := rfl
theorem pGt_i (i j : Int) : pGt (.int i) (.int j) = .ok (.bool (decide (j < i))) := rfl
theorem pGe_i (i j : Int) : pGe (.int i) (.int j) = .ok (.bool (decide (j ≤ i))) := rfl
theorem pAdd_i (i j : Int) : pAdd (.int i) (.int j) = .ok (.int (i + j)) := rfl
theorem pSub_i (i j : Int) : pSub (.int i) (.int j) = .ok (.int (i - j)) := rfl
theorem pLen_l (xs : List PD) : pLen [.list xs] = .ok (.int xs.length) := rfl
theorem pLen_t (xs : List PD) : pLen [.tuple xs] = .ok (.int xs.length) := rfl
theorem pIx_t0 (x : PD) (xs : List PD) : pIx (.tuple (x :: xs)) (.int 0) = .ok x := by
  simp [pIx, L2.atI, ixN]
theorem pIx_t1 (x y : PD) (xs : List PD) : pIx (.tuple (x :: y :: xs)) (.int 1) = .ok y := by
  have h : (1 : Int) < (xs.length : Int) + 1 + 1 := by omega
  simp [pIx, L2.atI, ixN, h]
theorem pEq_ok {d e : PD} (h1 : SeqAt.shaped d = true) (h2 : SeqAt.shaped e = true) : pEq d e = .ok (.bool (PyData.eqv d e)) := by
  unfold pEq; rw [h1, h2]; rfl
theorem pNe_ok {d e : PD} (h1 : SeqAt.shaped d = true) (h2 : SeqAt.shaped e = true) : pNe d e = .ok (.bool (!PyData.eqv d e)) := by
  unfold pNe; rw [h1, h2]; rfl
theorem eqv_int (i j : Int) : PyData.eqv (.int i) (.int j) = decide (i = j) := by
  show (i == j) = _
  by_cases h : i = j
  · subst h; simp
  · simp [h]
theorem shaped_int (i : Int) : SeqAt.shaped (.int i) = true := rfl
theorem shaped_bool (i : Bool) : SeqAt.shaped (.bool i) = true := rfl
theorem shaped_none : SeqAt.shaped .none = true := rfl
theorem pEq_i (i j : Int) : pEq (.int i) (.int j) = .ok (.bool (decide (i = j))) := by rw [pEq_ok rfl rfl, eqv_int]
theorem pNe_i (i j : Int) : pNe (.int i) (.int j) = .ok (.bool (!decide (i = j))) := by rw [pNe_ok rfl rfl, eqv_int]
theorem pMul_i {i j : Int} (h : -(2 ^ 64) < i ∧ i < 2 ^ 64) : pMul (.int i) (.int j) = .ok (.int (i * j)) := by
  show (if mulOk i j = true then _ else _) = _
  rw [if_pos]
  unfold mulOk
  rw [decide_eq_true h.1, decide_eq_true h.2]; rfl
/-- a chain of two <= -/
theorem chain_le {d : Type} (a b c : Env → d → R (PD × d)) (ρ : Env) (s : d) (x y z : Int) (ha : a ρ s = .ok (.int x, s)) (hb : b ρ s = .ok (.int y, s)) (hc : c ρ s = .ok (.int z, s)) : cChain pLe pLe a b c ρ s = .ok (.bool (decide (x ≤ y) && decide (y ≤ z)), s) := by
  unfold cChain
  rw [ha, bnd_ok, hb, bnd_ok, if_pos (show (isD (.int x) && isD (.int y)) = true from rfl), pLe_i]
  by_cases h : x ≤ y
  · rw [decide_eq_true h]
    show bnd (c ρ s) _ = _
    rw [hc, bnd_ok, if_pos (show isD (.int z) = true from rfl), pLe_i]; rfl
  · rw [decide_eq_false h]; rfl
end DL

/-! M1: things -/
namespace DL
open PySem PySem.Spec PyProof.Rows L2
local macro_rules | `(tactic| walk_at "ev") => `(tactic| simp only [szL, Nat.reduceLeDiff, mBody, mBodyD, outP, outD, cVar, cC, cOp, cUn, cTest, cAndT, cOrT, cNotT, cAndV, cOrV, cIf, aNil, aCons, cTup, cLst, cSl, oNone, oSome, cCall, cCallF, cCallD, cMeth, noX', isL_list, isL_encP, tYesD, bnd_ok, bnd_exc, bnd_bad, lft_ok, lft_exc, lft_bad, isOk_ok, isOk_exc, isOk_bad, isD_int, isD_bool, isD_none, isD_str, isD_list, isD_tuple, isD_eP, isD_eT, isD_encP, isD_encT, allD, List.all_cons, List.all_nil, Bool.and_self, Bool.and_true, Bool.true_and, if_true, if_false, Bool.false_eq_true, ite_true, ite_false, reduceIte, List.length_cons, List.length_nil, List.map_cons, List.map_nil, List.cons_append, List.nil_append, List.replicate_succ, List.replicate_zero, List.getElem?_cons_zero, List.getElem?_cons_succ, List.set_cons_zero, List.set_cons_succ, wipeD, sSeq, sSet, sAsg, sRet, sIf, sExpr, sNil, sRaise, sSetF, sApp, sAug, sAugL, sPar, sPar3, fLst, bNm, bTup, bCons, bNil, pNot, pIsi, isiT, tyN, pNeg, Nat.reduceAdd, decide_true, decide_false, Bool.not_true, Bool.not_false, noX_ok, pLe_i, pLt_i, pGt_i, pGe_i, pAdd_i, pSub_i, pLen_l, pLen_t, pIx_t0, pIx_t1, pEq_i, pNe_i])
local macro_rules | `(tactic| walk_at "evs") => `(tactic| simp [szL, mBody, mBodyD, outP, outD, cVar, cC, cOp, cUn, cTest, cAndT, cOrT, cNotT, cAndV, cOrV, cIf, aNil, aCons, cTup, cLst, cSl, oNone, oSome, cCall, cCallF, cCallD, cMeth, noX', isL_list, isL_encP, tYesD, bnd_ok, bnd_exc, bnd_bad, lft_ok, lft_exc, lft_bad, isOk_ok, isOk_exc, isOk_bad, isD_int, isD_bool, isD_none, isD_str, isD_list, isD_tuple, isD_eP, isD_eT, isD_encP, isD_encT, allD, List.all_cons, List.all_nil, List.map_cons, List.map_nil, List.cons_append, List.nil_append, List.replicate_succ, List.replicate_zero, List.getElem?_cons_zero, List.getElem?_cons_succ, List.set_cons_zero, List.set_cons_succ, wipeD, sSeq, sSet, sAsg, sRet, sIf, sExpr, sNil, sRaise, sSetF, sApp, sAug, sAugL, sPar, sPar3, fLst, bNm, bTup, bCons, bNil, pNot, pIsi, isiT, tyN, pNeg, noX_ok, pLe_i, pLt_i, pGt_i, pGe_i, pAdd_i, pSub_i, pLen_l, pLen_t, pIx_t0, pIx_t1, pEq_i, pNe_i])
local macro_rules | `(tactic| walk_at "evx") => `(tactic| simp [szL, mBody, mBodyD, outP, outD, cVar, cC, cOp, cUn, cTest, cAndT, cOrT, cNotT, cAndV, cOrV, cIf, aNil, aCons, cTup, cLst, cSl, oNone, oSome, cCall, cCallF, cCallD, cMeth, noX', isL_list, isL_encP, tYesD, bnd_ok, bnd_exc, bnd_bad, lft_ok, lft_exc, lft_bad, isOk_ok, isOk_exc, isOk_bad, isD_int, isD_bool, isD_none, isD_str, isD_list, isD_tuple, isD_eP, isD_eT, isD_encP, isD_encT, allD, List.all_cons, List.all_nil, List.map_cons, List.map_nil, List.cons_append, List.nil_append, List.replicate_succ, List.replicate_zero, List.getElem?_cons_zero, List.getElem?_cons_succ, List.set_cons_zero, List.set_cons_succ, wipeD, sSeq, sSet, sAsg, sRet, sIf, sExpr, sNil, sRaise, sSetF, sApp, sAug, sAugL, sPar, sPar3, fLst, bNm, bTup, bCons, bNil, pNot, pIsi, isiT, tyN, pNeg, noX_ok, pLe_i, pLt_i, pGt_i, pGe_i, pAdd_i, pSub_i, pLen_l, pLen_t, pIx_t0, pIx_t1, pEq_i, pNe_i, *])
structure GoodT (T : List Th) : Prop where
  l1 : 1 ≤ T.length
  l2 : T.length ≤ 12
  sc : ∀ x ∈ T, 0 ≤ x.1 ∧ x.1 ≤ 99
theorem m_is_int_int (v lo hi : Int) : m_is_int [.int v, .int lo, .int hi] = .ok (.bool (decide (lo ≤ v) && decide (v ≤ hi))) := by
  unfold m_is_int b_is_int
  walk_at "ev"
  rw [chain_le (d := Unit) (cVar 1) (cVar 0) (cVar 2) [some (.int v), some (.int lo), some (.int hi)] () lo v hi rfl rfl rfl]
  simp
theorem m_is_thing_eT (x : Th) (h : 0 ≤ x.1 ∧ x.1 ≤ 99) : m_is_thing [eT x] = .ok (.bool true) := by
  unfold m_is_thing b_is_thing eT
  have e := m_is_int_int x.1 0 99
  rw [decide_eq_true h.1, decide_eq_true h.2] at e
  walk_at "evx"
theorem m_is_things_encT {T : List Th} (g : GoodT T) : m_is_things [encT T] = .ok (.bool true) := by
  unfold m_is_things b_is_things encT
  have hc : cComp (iLst (cVar 0)) (bNm 1) [1] tYesD (cCallF 1 m_is_thing (aCons (cVar 1) aNil)) [some (.list (T.map eT)), none] () = .ok (.list (T.map fun _ => .bool true), ()) := by
    refine cComp_map T eT (fun _ => .bool true) (by simp [iLst, cVar]) (by have := g.l2; omega) fun x hx => ⟨_, rfl, ?_, rfl⟩
    walk_at "ev"
    rw [m_is_thing_eT x (g.sc x hx)]
    rfl
  have hb : toBools (T.map fun _ => PyData.bool true) = some (T.map fun _ => true) := by
    have := toBools_map (T.map fun _ => true)
    rw [List.map_map] at this
    exact this
  have h1 := g.l1
  have h2 := g.l2
  have e1 : decide ((1 : Int) ≤ (T.length : Int)) = true := decide_eq_true (by omega)
  have e2 : decide ((T.length : Int) ≤ 12) = true := decide_eq_true (by omega)
  have hch : cChain pLe pLe (cC (.int 1)) (cCall pLen (aCons (cVar 0) aNil)) (cC (.int 12)) [some (.list (T.map eT)), none] () = .ok (.bool true, ()) := by
    rw [chain_le (d := Unit) _ _ _ _ () 1 T.length 12 rfl (by walk_at "ev"; rw [List.length_map]) rfl, e1, e2]; rfl
  have hp : pAll [.list (T.map fun _ => .bool true)] = .ok (.bool true) := by
    simp [pAll, hb]
  walk_at "evx"
def fa (T : List Th) (t : Int) : Int := ((T.filter fun x => decide (t ≤ x.1) && !x.2).length : Int)
def tr (T : List Th) (t : Int) : Int := ((T.filter fun x => decide (t ≤ x.1) && x.2).length : Int)
def cnt (T : List Th) (t : Int) : Pt := (fa T t, tr T t)
theorem m_counts_eq {T : List Th} (g : T.length ≤ 1000) (t : Int) : m_counts [encT T, .int t] = .ok (eP (cnt T t)) := by
  unfold m_counts b_counts encT
  have h1 : cComp (iLst (cVar 0)) (bTup (bCons (bNm 3) (bCons (bNm 4) bNil))) [3, 4] (cAndT (cTest (cOp pGe (cVar 3) (cVar 1))) (cNotT (cTest (cVar 4)))) (cC (.int 1)) [some (.list (T.map eT)), some (.int t), none, none, none] () = .ok (.list ((T.filter fun x => decide (t ≤ x.1) && !x.2).map fun _ => .int 1), ()) := by
    refine cComp_pure T eT _ _ (by simp [iLst, cVar]) (by omega) fun x hx => ⟨_, rfl, ?_, fun _ => ⟨rfl, rfl⟩⟩
    by_cases h : t ≤ x.1 <;> walk_at "evs" <;> simp [h]
  have h2 : ∀ y, cComp (iLst (cVar 0)) (bTup (bCons (bNm 3) (bCons (bNm 4) bNil))) [3, 4] (cAndT (cTest (cOp pGe (cVar 3) (cVar 1))) (cTest (cVar 4))) (cC (.int 1)) [some (.list (T.map eT)), some (.int t), y, none, none] () = .ok (.list ((T.filter fun x => decide (t ≤ x.1) && x.2).map fun _ => .int 1), ()) := fun y => by
    refine cComp_pure T eT _ _ (by simp [iLst, cVar]) (by omega) fun x hx => ⟨_, rfl, ?_, fun _ => ⟨rfl, rfl⟩⟩
    by_cases h : t ≤ x.1 <;> walk_at "evs" <;> simp [h]
  walk_at "ev"
  rw [h1]
  walk_at "ev"
  rw [h2]
  walk_at "ev"
  simp [eP, cnt, fa, tr, sizeLine]
/-- the unlike scores, the greatest first -/
def scs (T : List Th) : List Int := (sortU (T.map (·.1))).reverse
theorem m_scores_of_eq {T : List Th} (g : T.length < 64) : m_scores_of [encT T] = .ok (.list ((scs T).map PyData.int)) := by
  unfold m_scores_of b_scores_of encT
  have h1 : cComp (iLst (cVar 0)) (bTup (bCons (bNm 1) (bCons (bNm 2) bNil))) [1, 2] tYesD (cVar 1) [some (.list (T.map eT)), none, none] () = .ok (.list (T.map fun x => .int x.1), ()) := by
    refine cComp_map T eT _ (by simp [iLst, cVar]) (by omega) fun x hx => ⟨_, rfl, rfl, rfl⟩
  have h2 : toInts (T.map fun x => PyData.int x.1) = some (T.map (·.1)) := by
    have := toInts_map (T.map (·.1))
    rw [List.map_map] at this
    exact this
  have h3 : pSortSet (.list (T.map fun x => PyData.int x.1)) = .ok (.list ((sortU (T.map (·.1))).map PyData.int)) := by
    show (match toInts (T.map fun x => PyData.int x.1) with | some ns => _ | none => _) = _
    rw [h2]
    show (if (T.map (·.1)).length < 64 then _ else _) = _
    rw [if_pos (by rw [List.length_map]; exact g)]
  walk_at "ev"
  rw [h1]
  walk_at "ev"
  rw [h3]
  walk_at "ev"
  simp [pRev, scs, isOk_ok]
theorem len_insU (k : Int) : ∀ l : List Int, (insU k l).length ≤ l.length + 1
  | [] => by simp [insU]
  | x :: r => by
    have := len_insU k r
    unfold insU
    split
    · simp
    · split
      · simp
      · simp only [List.length_cons]; omega
theorem len_sortU : ∀ l : List Int, (sortU l).length ≤ l.length
  | [] => by simp [sortU]
  | x :: r => by
    have h1 := len_sortU r
    have h2 := len_insU x (sortU r)
    unfold sortU
    simp only [List.length_cons]; omega
theorem scs_len (T : List Th) : (scs T).length ≤ T.length := by
  unfold scs
  rw [List.length_reverse]
  have := len_sortU (T.map (·.1))
  rwa [List.length_map] at this
/-- the points -/
def pts (T : List Th) : List Pt := (0, 0) :: (scs T).map (cnt T)
theorem m_points_of_eq {T : List Th} (g : T.length < 64) : m_points_of [encT T] = .ok (encP (pts T)) := by
  unfold m_points_of b_points_of
  have hs := m_scores_of_eq g
  have hl := scs_len T
  have h1 : cComp (iLst (cCallF 1 m_scores_of (aCons (cVar 0) aNil))) (bNm 1) [1] tYesD (cCallF 2 m_counts (aCons (cVar 0) (aCons (cVar 1) aNil))) [some (encT T), none] () = .ok (.list ((scs T).map fun t => eP (cnt T t)), ()) := by
    refine cComp_map (scs T) PyData.int _ ?_ (by omega) fun x hx => ⟨_, rfl, ?_, rfl⟩
    · have he : cCallF 1 m_scores_of (aCons (cVar 0) aNil) [some (encT T), none] () = .ok (.list ((scs T).map PyData.int), ()) := by
        walk_at "ev"
        rw [hs]
        rfl
      unfold iLst
      rw [he]
      rfl
    · walk_at "ev"
      rw [m_counts_eq (by omega)]
      rfl
  walk_at "ev"
  rw [h1]
  walk_at "ev"
  have hp : pAdd (.list [.tuple [.int 0, .int 0]]) (.list ((scs T).map fun t => eP (cnt T t))) = .ok (encP (pts T)) := by
    show (if 1 + ((scs T).map fun t => eP (cnt T t)).length ≤ sizeLine then _ else _) = _
    rw [if_pos (by rw [List.length_map, szL]; omega)]
    simp [encP, pts, eP]
  rw [hp]
  rfl
theorem m_check_things_eq {T : List Th} (g : GoodT T) : m_check_things [encT T] = .ok .none := by
  unfold m_check_things b_check_things
  walk_at "ev"
  rw [m_is_things_encT g]
  rfl
theorem GoodT.l64 {T : List Th} (g : GoodT T) : T.length < 64 := by have := g.l2; omega
theorem GoodT.l1000 {T : List Th} (g : GoodT T) : T.length ≤ 1000 := by have := g.l2; omega
theorem m_curve_eq {T : List Th} (g : GoodT T) : m_curve [encT T] = .ok (encP (pts T)) := by
  unfold m_curve b_curve
  walk_at "ev"
  rw [m_check_things_eq g]
  walk_at "ev"
  rw [m_points_of_eq g.l64]
  rfl
theorem m_totals_eq {T : List Th} (g : GoodT T) : m_totals [encT T] = .ok (eP (cnt T 0)) := by
  unfold m_totals b_totals
  walk_at "ev"
  rw [m_check_things_eq g]
  walk_at "ev"
  rw [m_counts_eq g.l1000]
  rfl
theorem m_unlike_scores_eq {T : List Th} (g : GoodT T) : m_unlike_scores [encT T] = .ok (.list ((scs T).map PyData.int)) := by
  unfold m_unlike_scores b_unlike_scores
  walk_at "ev"
  rw [m_check_things_eq g]
  walk_at "ev"
  rw [m_scores_of_eq g.l64]
  rfl
theorem m_check_threshold_eq {t : Int} (h : 0 ≤ t ∧ t ≤ 100) : m_check_threshold [.int t] = .ok .none := by
  unfold m_check_threshold b_check_threshold
  walk_at "ev"
  rw [show (99 : Int) + 1 = 100 from rfl, m_is_int_int, decide_eq_true h.1, decide_eq_true h.2]
  rfl
theorem m_alarms_at_eq {T : List Th} (g : GoodT T) {t : Int} (h : 0 ≤ t ∧ t ≤ 100) : m_alarms_at [encT T, .int t] = .ok (eP (cnt T t)) := by
  unfold m_alarms_at b_alarms_at
  walk_at "ev"
  rw [m_check_things_eq g]
  walk_at "ev"
  rw [m_check_threshold_eq h]
  walk_at "ev"
  rw [m_counts_eq g.l1000]
  rfl
/-! ### the law's own point -/
theorem m__law_point_eq {T : List Th} (g : T.length ≤ 1000) (t : Int) : m__law_point [encT T, .int t] = .ok (eP (cnt T t)) := by
  unfold m__law_point b__law_point encT
  have h1 : cComp (iLst (cVar 0)) (bTup (bCons (bNm 3) (bCons (bNm 4) bNil))) [3, 4] (cTest (cOp pGe (cVar 3) (cVar 1))) (cVar 4) [some (.list (T.map eT)), some (.int t), none, none, none] () = .ok (.list ((T.filter fun x => decide (t ≤ x.1)).map fun x => .bool x.2), ()) := by
    refine cComp_pure T eT _ _ (by simp [iLst, cVar]) (by omega) fun x hx => ⟨_, rfl, ?_, fun _ => ⟨rfl, rfl⟩⟩
    rfl
  have h2 : toBools ((T.filter fun x => decide (t ≤ x.1)).map fun x => PyData.bool x.2) = some ((T.filter fun x => decide (t ≤ x.1)).map (·.2)) := by
    have := toBools_map ((T.filter fun x => decide (t ≤ x.1)).map (·.2))
    rw [List.map_map] at this
    exact this
  have hc : ∀ b : Bool, pCount (.list ((T.filter fun x => decide (t ≤ x.1)).map fun x => .bool x.2)) (.bool b) = .ok (.int (((T.filter fun x => decide (t ≤ x.1)).map (·.2)).count b : Nat)) := fun b => by
    show (match toBools _ with | some bs => _ | none => _) = _
    rw [h2]
  have cf : ∀ (b : Bool) (T : List Th), ((T.filter fun x => decide (t ≤ x.1)).map (·.2)).count b = (T.filter fun x => decide (t ≤ x.1) && (x.2 == b)).length := by
    intro b T
    induction T with
    | nil => rfl
    | cons x T ih =>
      by_cases h : t ≤ x.1
      · rw [List.filter_cons_of_pos (by simpa using h), List.map_cons, List.count_cons, ih]
        by_cases hb : x.2 = b
        · rw [List.filter_cons_of_pos (by simp [h, hb])]; simp [hb]
        · rw [List.filter_cons_of_neg (by simp [hb])]; simp [hb]
      · rw [List.filter_cons_of_neg (by simpa using h), List.filter_cons_of_neg (by simp [h]), ih]
  walk_at "ev"
  rw [h1]
  walk_at "ev"
  rw [hc, hc, cf, cf]
  walk_at "ev"
  simp [eP, cnt, fa, tr]
end DL

/-! M2: the curve -/
namespace DL
open PySem PySem.Spec PyProof.Rows L2
local macro_rules | `(tactic| walk_at "ev") => `(tactic| simp only [szL, Nat.reduceLeDiff, mBody, mBodyD, outP, outD, cVar, cC, cOp, cUn, cTest, cAndT, cOrT, cNotT, cAndV, cOrV, cIf, aNil, aCons, cTup, cLst, cSl, oNone, oSome, cCall, cCallF, cCallD, cMeth, noX', isL_list, isL_encP, tYesD, bnd_ok, bnd_exc, bnd_bad, lft_ok, lft_exc, lft_bad, isOk_ok, isOk_exc, isOk_bad, isD_int, isD_bool, isD_none, isD_str, isD_list, isD_tuple, isD_eP, isD_eT, isD_encP, isD_encT, allD, List.all_cons, List.all_nil, Bool.and_self, Bool.and_true, Bool.true_and, if_true, if_false, Bool.false_eq_true, ite_true, ite_false, reduceIte, List.length_cons, List.length_nil, List.map_cons, List.map_nil, List.cons_append, List.nil_append, List.replicate_succ, List.replicate_zero, List.getElem?_cons_zero, List.getElem?_cons_succ, List.set_cons_zero, List.set_cons_succ, wipeD, sSeq, sSet, sAsg, sRet, sIf, sExpr, sNil, sRaise, sSetF, sApp, sAug, sAugL, sPar, sPar3, fLst, bNm, bTup, bCons, bNil, pNot, pIsi, isiT, tyN, pNeg, Nat.reduceAdd, decide_true, decide_false, Bool.not_true, Bool.not_false, noX_ok, pLe_i, pLt_i, pGt_i, pGe_i, pAdd_i, pSub_i, pLen_l, pLen_t, pIx_t0, pIx_t1, pEq_i, pNe_i])
local macro_rules | `(tactic| walk_at "evs") => `(tactic| simp [szL, mBody, mBodyD, outP, outD, cVar, cC, cOp, cUn, cTest, cAndT, cOrT, cNotT, cAndV, cOrV, cIf, aNil, aCons, cTup, cLst, cSl, oNone, oSome, cCall, cCallF, cCallD, cMeth, noX', isL_list, isL_encP, tYesD, bnd_ok, bnd_exc, bnd_bad, lft_ok, lft_exc, lft_bad, isOk_ok, isOk_exc, isOk_bad, isD_int, isD_bool, isD_none, isD_str, isD_list, isD_tuple, isD_eP, isD_eT, isD_encP, isD_encT, allD, List.all_cons, List.all_nil, List.map_cons, List.map_nil, List.cons_append, List.nil_append, List.replicate_succ, List.replicate_zero, List.getElem?_cons_zero, List.getElem?_cons_succ, List.set_cons_zero, List.set_cons_succ, wipeD, sSeq, sSet, sAsg, sRet, sIf, sExpr, sNil, sRaise, sSetF, sApp, sAug, sAugL, sPar, sPar3, fLst, bNm, bTup, bCons, bNil, pNot, pIsi, isiT, tyN, pNeg, noX_ok, pLe_i, pLt_i, pGt_i, pGe_i, pAdd_i, pSub_i, pLen_l, pLen_t, pIx_t0, pIx_t1, pEq_i, pNe_i])
local macro_rules | `(tactic| walk_at "evx") => `(tactic| simp [szL, mBody, mBodyD, outP, outD, cVar, cC, cOp, cUn, cTest, cAndT, cOrT, cNotT, cAndV, cOrV, cIf, aNil, aCons, cTup, cLst, cSl, oNone, oSome, cCall, cCallF, cCallD, cMeth, noX', isL_list, isL_encP, tYesD, bnd_ok, bnd_exc, bnd_bad, lft_ok, lft_exc, lft_bad, isOk_ok, isOk_exc, isOk_bad, isD_int, isD_bool, isD_none, isD_str, isD_list, isD_tuple, isD_eP, isD_eT, isD_encP, isD_encT, allD, List.all_cons, List.all_nil, List.map_cons, List.map_nil, List.cons_append, List.nil_append, List.replicate_succ, List.replicate_zero, List.getElem?_cons_zero, List.getElem?_cons_succ, List.set_cons_zero, List.set_cons_succ, wipeD, sSeq, sSet, sAsg, sRet, sIf, sExpr, sNil, sRaise, sSetF, sApp, sAug, sAugL, sPar, sPar3, fLst, bNm, bTup, bCons, bNil, pNot, pIsi, isiT, tyN, pNeg, noX_ok, pLe_i, pLt_i, pGt_i, pGe_i, pAdd_i, pSub_i, pLen_l, pLen_t, pIx_t0, pIx_t1, pEq_i, pNe_i, *])
/-! ### plain facts -/
theorem mem_scs {T : List Th} {t : Int} : t ∈ scs T ↔ ∃ x ∈ T, x.1 = t := by
  unfold scs
  rw [List.mem_reverse, mem_sortU, List.mem_map]
theorem scs_gt (T : List Th) : (scs T).Pairwise (· > ·) := by
  unfold scs
  rw [List.pairwise_reverse]
  exact lt_sortU
/-- how many alarms in all -/
def al (T : List Th) (t : Int) : Int := ((T.filter fun x => decide (t ≤ x.1)).length : Int)
theorem al_sum (T : List Th) (t : Int) : fa T t + tr T t = al T t := by
  unfold fa tr al
  induction T with
  | nil => rfl
  | cons x T ih =>
    by_cases h : t ≤ x.1
    · cases hb : x.2 with
      | true =>
        rw [List.filter_cons_of_neg (by simp [hb]), List.filter_cons_of_pos (by simp [h, hb]), List.filter_cons_of_pos (by simpa using h)]
        simp only [List.length_cons]; omega
      | false =>
        rw [List.filter_cons_of_pos (by simp [h, hb]), List.filter_cons_of_neg (by simp [hb]), List.filter_cons_of_pos (by simpa using h)]
        simp only [List.length_cons]; omega
    · rw [List.filter_cons_of_neg (by simp [h]), List.filter_cons_of_neg (by simp [h]), List.filter_cons_of_neg (by simpa using h)]
      exact ih
theorem filter_len_mono {a : Type} {p q : a → Bool} (h : ∀ x, p x = true → q x = true) : ∀ l : List a, (l.filter p).length ≤ (l.filter q).length
  | [] => Nat.le_refl _
  | x :: l => by
    have ih := filter_len_mono h l
    cases hp : p x with
    | true =>
      rw [List.filter_cons_of_pos hp, List.filter_cons_of_pos (h x hp)]
      simp only [List.length_cons]; omega
    | false =>
      rw [List.filter_cons_of_neg (by simp [hp])]
      cases hq : q x with
      | true => rw [List.filter_cons_of_pos hq]; simp only [List.length_cons]; omega
      | false => rw [List.filter_cons_of_neg (by simp [hq])]; exact ih
theorem filter_len_lt {a : Type} {p q : a → Bool} (h : ∀ x, p x = true → q x = true) : ∀ (l : List a) (y : a), y ∈ l → p y = false → q y = true → (l.filter p).length < (l.filter q).length
  | [], _, m, _, _ => by cases m
  | x :: l, y, m, h1, h2 => by
    have ih := filter_len_mono h l
    rcases List.mem_cons.mp m with e | e
    · subst e
      rw [List.filter_cons_of_neg (by simp [h1]), List.filter_cons_of_pos h2]
      simp only [List.length_cons]; omega
    · have ih2 := filter_len_lt h l y e h1 h2
      cases hp : p x with
      | true =>
        rw [List.filter_cons_of_pos hp, List.filter_cons_of_pos (h x hp)]
        simp only [List.length_cons]; omega
      | false =>
        rw [List.filter_cons_of_neg (by simp [hp])]
        cases hq : q x with
        | true => rw [List.filter_cons_of_pos hq]; simp only [List.length_cons]; omega
        | false => rw [List.filter_cons_of_neg (by simp [hq])]; exact ih2
theorem fa_mono (T : List Th) {s t : Int} (h : s ≤ t) : fa T t ≤ fa T s := by
  unfold fa
  have := filter_len_mono (p := fun x : Th => decide (t ≤ x.1) && !x.2) (q := fun x => decide (s ≤ x.1) && !x.2) (fun x hx => by
    simp only [Bool.and_eq_true, decide_eq_true_eq] at hx ⊢
    exact ⟨by omega, hx.2⟩) T
  omega
theorem tr_mono (T : List Th) {s t : Int} (h : s ≤ t) : tr T t ≤ tr T s := by
  unfold tr
  have := filter_len_mono (p := fun x : Th => decide (t ≤ x.1) && x.2) (q := fun x => decide (s ≤ x.1) && x.2) (fun x hx => by
    simp only [Bool.and_eq_true, decide_eq_true_eq] at hx ⊢
    exact ⟨by omega, hx.2⟩) T
  omega
theorem al_lt (T : List Th) {s t : Int} (h : s < t) (m : s ∈ scs T) : al T t < al T s := by
  obtain ⟨x, hx, e⟩ := mem_scs.mp m
  unfold al
  have := filter_len_lt (p := fun x : Th => decide (t ≤ x.1)) (q := fun x => decide (s ≤ x.1)) (fun y hy => by
    simp only [decide_eq_true_eq] at hy ⊢; omega) T x hx (by simp; omega) (by simp; omega)
  omega
theorem cnt_same (T : List Th) {t : Int} (h : t ∉ scs T) : cnt T t = cnt T (t + 1) := by
  have hx : ∀ x ∈ T, x.1 ≠ t := fun x hx e => h (mem_scs.mpr ⟨x, hx, e⟩)
  unfold cnt fa tr
  have e1 : (T.filter fun x => decide (t ≤ x.1) && !x.2) = T.filter fun x => decide (t + 1 ≤ x.1) && !x.2 := by
    apply List.filter_congr
    intro x m
    have := hx x m
    congr 1
    by_cases h1 : t ≤ x.1
    · rw [decide_eq_true h1, decide_eq_true (by omega)]
    · rw [decide_eq_false h1, decide_eq_false (by omega)]
  have e2 : (T.filter fun x => decide (t ≤ x.1) && x.2) = T.filter fun x => decide (t + 1 ≤ x.1) && x.2 := by
    apply List.filter_congr
    intro x m
    have := hx x m
    congr 1
    by_cases h1 : t ≤ x.1
    · rw [decide_eq_true h1, decide_eq_true (by omega)]
    · rw [decide_eq_false h1, decide_eq_false (by omega)]
  rw [e1, e2]
theorem cnt_top {T : List Th} (g : GoodT T) {t : Int} (h : 100 ≤ t) : cnt T t = (0, 0) := by
  unfold cnt fa tr
  rw [List.filter_eq_nil_iff.mpr, List.filter_eq_nil_iff.mpr]
  · rfl
  · intro x hx
    have := g.sc x hx
    simp; omega
  · intro x hx
    have := g.sc x hx
    simp; omega
/-- the points of thresholds from 100 down, each once -/
def crv (T : List Th) (ts : List Int) (found : List Pt) : List Pt := ts.foldl (fun acc t => if cnt T t ∈ acc then acc else acc ++ [cnt T t]) found
def down (n : Nat) : List Int := (List.range n).map fun (i : Nat) => 100 - (i : Int)
theorem down_succ (n : Nat) : down (n + 1) = down n ++ [100 - (n : Int)] := by
  unfold down
  rw [List.range_succ, List.map_append]; rfl
/-- behind n thresholds -/
theorem crv_down {T : List Th} (g : GoodT T) : ∀ n : Nat, 1 ≤ n → crv T (down n) [] = (0, 0) :: ((scs T).filter fun s => decide (100 - (n : Int) < s)).map (cnt T)
  | 0, h => by omega
  | 1, _ => by
    have e : ((scs T).filter fun s => decide (100 - ((1 : Nat) : Int) < s)) = [] := by
      rw [List.filter_eq_nil_iff]
      intro s hs
      obtain ⟨x, hx, e⟩ := mem_scs.mp hs
      have := g.sc x hx
      simp; omega
    rw [e]
    have e2 := cnt_top g (Int.le_refl 100)
    simp [crv, down, e2]
  | n + 2, _ => by
    have ih := crv_down g (n + 1) (by omega)
    rw [down_succ (n + 1)]
    unfold crv at ih ⊢
    rw [List.foldl_append, ih]
    simp only [List.foldl_cons, List.foldl_nil]
    have hN : (((n + 1 : Nat) : Int)) = (n : Int) + 1 := by omega
    have hN2 : (((n + 2 : Nat) : Int)) = (n : Int) + 2 := by omega
    rw [hN, hN2]
    generalize ht : 100 - ((n : Int) + 1) = t
    have ht2 : 100 - ((n : Int) + 2) = t - 1 := by omega
    rw [ht2]
    by_cases m : t ∈ scs T
    · -- a new point
      have hnew : cnt T t ∉ (0, 0) :: ((scs T).filter fun s => decide (t < s)).map (cnt T) := by
        intro hm
        have key : ∀ u, t < u → cnt T t ≠ cnt T u := fun u hu e => by
          have h1 := al_lt T hu m
          have h2 : al T t = al T u := by
            rw [← al_sum, ← al_sum]
            have e1 : fa T t = fa T u := congrArg Prod.fst e
            have e2 : tr T t = tr T u := congrArg Prod.snd e
            rw [e1, e2]
          omega
        rcases List.mem_cons.mp hm with e | e
        · have e2 := cnt_top g (Int.le_refl 100)
          exact key 100 (by omega) (e.trans e2.symm)
        · obtain ⟨u, hu, e⟩ := List.mem_map.mp e
          have := (List.mem_filter.mp hu).2
          exact key u (by simpa using this) e.symm
      rw [if_neg hnew, List.cons_append]
      congr 1
      rw [← List.map_singleton, ← List.map_append]
      congr 1
      -- the scores above t - 1 are those above t and t
      have aux : ∀ (l : List Int), l.Pairwise (· > ·) → t ∈ l → (l.filter fun s => decide (t < s)) ++ [t] = l.filter fun s => decide (t - 1 < s) := by
        intro l
        induction l with
        | nil => intro _ h; cases h
        | cons a l ih =>
          intro hp hm
          have hp' := List.pairwise_cons.mp hp
          by_cases ha : a = t
          · subst ha
            rw [List.filter_cons_of_neg (by simp), List.filter_cons_of_pos (by simp; omega)]
            have e1 : (l.filter fun s => decide (a < s)) = [] := by
              rw [List.filter_eq_nil_iff]
              intro s hs
              have := hp'.1 s hs
              simp; omega
            have e2 : (l.filter fun s => decide (a - 1 < s)) = [] := by
              rw [List.filter_eq_nil_iff]
              intro s hs
              have := hp'.1 s hs
              simp; omega
            rw [e1, e2]; rfl
          · have hm' : t ∈ l := by
              rcases List.mem_cons.mp hm with z | z
              · exact absurd z.symm ha
              · exact z
            have hat := hp'.1 t hm'
            rw [List.filter_cons_of_pos (by simp; omega), List.filter_cons_of_pos (by simp; omega), List.cons_append, ih hp'.2 hm']
      exact aux (scs T) (scs_gt T) m
    · -- the same point as the one above
      have hold : cnt T t ∈ (0, 0) :: ((scs T).filter fun s => decide (t < s)).map (cnt T) := by
        rw [cnt_same T m]
        -- the first score at or above t + 1, or none
        have key : ∀ k : Nat, ∀ u : Int, t < u → u + (k : Int) = 100 → cnt T u ∈ (0, 0) :: ((scs T).filter fun s => decide (t < s)).map (cnt T) := by
          intro k
          induction k with
          | zero =>
            intro u hu e
            rw [cnt_top g (by omega)]; simp
          | succ k ih =>
            intro u hu e
            by_cases mu : u ∈ scs T
            · exact List.mem_cons_of_mem _ (List.mem_map.mpr ⟨u, List.mem_filter.mpr ⟨mu, by simpa using hu⟩, rfl⟩)
            · rw [cnt_same T mu]
              exact ih (u + 1) (by omega) (by omega)
        by_cases h100 : t + 1 ≤ 100
        · exact key (100 - (t + 1)).toNat (t + 1) (by omega) (by omega)
        · rw [cnt_top g (by omega)]; simp
      rw [if_pos hold]
      congr 2
      apply List.filter_congr
      intro s hs
      have hne : s ≠ t := fun z => m (by rw [← z]; exact hs)
      by_cases h1 : t < s
      · rw [decide_eq_true h1, decide_eq_true (by omega)]
      · rw [decide_eq_false h1, decide_eq_false (by omega)]
theorem crv_eq {T : List Th} (g : GoodT T) : crv T (down 101) [] = pts T := by
  rw [crv_down g 101 (by omega)]
  unfold pts
  congr 1
  rw [List.filter_eq_self.mpr]
  intro s hs
  obtain ⟨x, hx, e⟩ := mem_scs.mp hs
  have := g.sc x hx
  simp; omega
/-! ### encodings are one to one -/
theorem eqv_eP (p q : Pt) : PyData.eqv (eP p) (eP q) = decide (p = q) := by
  unfold eP
  show PyData.eqvAll [.int p.1, .int p.2] [.int q.1, .int q.2] = _
  show ((p.1 == q.1) && ((p.2 == q.2) && true)) = _
  by_cases h : p = q
  · subst h; simp
  · rw [decide_eq_false h]
    by_cases h1 : p.1 = q.1
    · have h2 : p.2 ≠ q.2 := fun h2 => h (Prod.ext h1 h2)
      simp [h2]
    · simp [h1]
theorem sh_eP (p : Pt) : Sh 1 (eP p) := Sh.tuple (n := 0) fun x hx => by
  simp only [List.mem_cons, List.not_mem_nil, or_false] at hx
  rcases hx with rfl | rfl <;> exact Sh.int _
theorem sh_eT (p : Th) : Sh 1 (eT p) := Sh.tuple (n := 0) fun x hx => by
  simp only [List.mem_cons, List.not_mem_nil, or_false] at hx
  rcases hx with rfl | rfl
  · exact Sh.int _
  · exact Sh.bool _
theorem sh_encP (P : List Pt) : Sh 2 (encP P) := Sh.list (n := 1) fun x hx => by
  obtain ⟨p, _, rfl⟩ := List.mem_map.mp hx
  exact sh_eP p
theorem sh_encT (P : List Th) : Sh 2 (encT P) := Sh.list (n := 1) fun x hx => by
  obtain ⟨p, _, rfl⟩ := List.mem_map.mp hx
  exact sh_eT p
theorem shaped_eP (p : Pt) : SeqAt.shaped (eP p) = true := (sh_eP p).ok (by decide)
theorem shaped_encP (P : List Pt) : SeqAt.shaped (encP P) = true := (sh_encP P).ok (by decide)
theorem shaped_encT (P : List Th) : SeqAt.shaped (encT P) = true := (sh_encT P).ok (by decide)
theorem any_eP (p : Pt) : ∀ P : List Pt, (P.map eP).any (fun z => PyData.eqv z (eP p)) = decide (p ∈ P)
  | [] => rfl
  | q :: P => by
    rw [List.map_cons, List.any_cons, any_eP p P, eqv_eP]
    by_cases h : q = p
    · subst h; simp
    · have h' : p ≠ q := fun z => h z.symm
      simp [h, h']
theorem pNotIn_eP (p : Pt) (P : List Pt) : pNotIn (eP p) (encP P) = .ok (.bool (!decide (p ∈ P))) := by
  unfold encP
  show (if SeqAt.shaped (eP p) && SeqAt.shaped (encP P) then _ else _) = _
  rw [shaped_eP, shaped_encP]
  rw [any_eP]
  rfl
theorem pIn_eP (p : Pt) (P : List Pt) : pIn (eP p) (encP P) = .ok (.bool (decide (p ∈ P))) := by
  unfold encP
  show (if SeqAt.shaped (eP p) && SeqAt.shaped (encP P) then _ else _) = _
  rw [shaped_eP, shaped_encP]
  rw [any_eP]
  rfl
theorem eqvAll_enc {a : Type} (e : a → PD) (h : ∀ x y, PyData.eqv (e x) (e y) = true ↔ x = y) : ∀ xs ys : List a, PyData.eqvAll (xs.map e) (ys.map e) = true ↔ xs = ys
  | [], [] => by simp [PyData.eqvAll]
  | [], y :: ys => by simp [PyData.eqvAll]
  | x :: xs, [] => by simp [PyData.eqvAll]
  | x :: xs, y :: ys => by
    show (PyData.eqv (e x) (e y) && PyData.eqvAll (xs.map e) (ys.map e)) = true ↔ _
    rw [Bool.and_eq_true, h, eqvAll_enc e h xs ys]
    constructor
    · rintro ⟨rfl, rfl⟩; rfl
    · intro z; injection z with z1 z2; exact ⟨z1, z2⟩
theorem eqv_encP (P Q : List Pt) : PyData.eqv (encP P) (encP Q) = decide (P = Q) := by
  have h := eqvAll_enc eP (fun x y => by rw [eqv_eP, decide_eq_true_eq]) P Q
  show PyData.eqvAll (P.map eP) (Q.map eP) = _
  by_cases e : P = Q
  · rw [decide_eq_true e]; exact h.mpr e
  · rw [decide_eq_false e]
    cases q : PyData.eqvAll (P.map eP) (Q.map eP) with
    | false => rfl
    | true => exact absurd (h.mp q) e
theorem eqv_ints (P Q : List Int) : PyData.eqv (.list (P.map PyData.int)) (.list (Q.map PyData.int)) = decide (P = Q) := by
  have h := eqvAll_enc PyData.int (fun x y => by rw [eqv_int, decide_eq_true_eq]) P Q
  show PyData.eqvAll (P.map PyData.int) (Q.map PyData.int) = _
  by_cases e : P = Q
  · rw [decide_eq_true e]; exact h.mpr e
  · rw [decide_eq_false e]
    cases q : PyData.eqvAll (P.map PyData.int) (Q.map PyData.int) with
    | false => rfl
    | true => exact absurd (h.mp q) e
theorem pEq_eP (p q : Pt) : pEq (eP p) (eP q) = .ok (.bool (decide (p = q))) := by rw [pEq_ok (shaped_eP p) (shaped_eP q), eqv_eP]
theorem pNe_eP (p q : Pt) : pNe (eP p) (eP q) = .ok (.bool (!decide (p = q))) := by rw [pNe_ok (shaped_eP p) (shaped_eP q), eqv_eP]
theorem pEq_encP (p q : List Pt) : pEq (encP p) (encP q) = .ok (.bool (decide (p = q))) := by rw [pEq_ok (shaped_encP p) (shaped_encP q), eqv_encP]
theorem pNe_encP (p q : List Pt) : pNe (encP p) (encP q) = .ok (.bool (!decide (p = q))) := by rw [pNe_ok (shaped_encP p) (shaped_encP q), eqv_encP]
theorem pNe_ints (p q : List Int) : pNe (.list (p.map PyData.int)) (.list (q.map PyData.int)) = .ok (.bool (!decide (p = q))) := by rw [pNe_ok (shaped_ints p) (shaped_ints q), eqv_ints]
theorem pEq_ints (p q : List Int) : pEq (.list (p.map PyData.int)) (.list (q.map PyData.int)) = .ok (.bool (decide (p = q))) := by rw [pEq_ok (shaped_ints p) (shaped_ints q), eqv_ints]
/-! ### the law's curve -/
theorem rngL_down (n : Nat) : rngL 100 (-1) n = (down n).map PyData.int := by
  unfold rngL down
  rw [List.map_map]
  apply List.map_congr_left
  intro i _
  show PyData.int (100 + (i : Int) * -1) = PyData.int (100 - (i : Int))
  congr 1; omega
theorem m__law_curve_eq {T : List Th} (g : GoodT T) : m__law_curve [encT T] = .ok (encP (pts T)) := by
  unfold m__law_curve b__law_curve
  have loop : ∀ (ts : List Int) (found : List Pt) (x y : Option PD), found.length + ts.length ≤ 1000 → ∃ x' y', sForGo (bNm 2) (sSeq (sSet 3 (cCallF 2 m__law_point (aCons (cVar 0) (aCons (cVar 2) aNil)))) (sIf (cTest (cOp pNotIn (cVar 3) (cVar 1))) (sApp 1 (cVar 3)) sNil)) (ts.map PyData.int) [some (encT T), some (encP found), x, y] () = .ok (.nx [some (encT T), some (encP (crv T ts found)), x', y'], ()) := by
    intro ts
    induction ts with
    | nil => intro found x y _; exact ⟨x, y, rfl⟩
    | cons t ts ih =>
      intro found x y hl
      rw [List.map_cons]
      unfold sForGo
      walk_at "ev"
      rw [m__law_point_eq g.l1000]
      walk_at "ev"
      rw [pNotIn_eP]
      walk_at "ev"
      simp only [List.length_cons] at hl
      by_cases h : cnt T t ∈ found
      · obtain ⟨x', y', e⟩ := ih found (some (.int t)) (some (eP (cnt T t))) (by omega)
        refine ⟨x', y', ?_⟩
        rw [show crv T (t :: ts) found = crv T ts found by unfold crv; rw [List.foldl_cons, if_pos h]]
        rw [← e]
        simp [h]
      · obtain ⟨x', y', e⟩ := ih (found ++ [cnt T t]) (some (.int t)) (some (eP (cnt T t))) (by simp only [List.length_append, List.length_cons, List.length_nil]; omega)
        refine ⟨x', y', ?_⟩
        rw [show crv T (t :: ts) found = crv T ts (found ++ [cnt T t]) by unfold crv; rw [List.foldl_cons, if_neg h]]
        rw [← e]
        have hsz : found.length < 16777216 := by omega
        simp [h, encP, hsz]
  obtain ⟨x', y', e⟩ := loop (down 101) [] none none (by simp [down])
  have hi : iRg3 (aCons (cC (.int 100)) (aCons (cOp pSub (cC (.int 0)) (cC (.int 1))) (aCons (cOp pSub (cC (.int 0)) (cC (.int 1))) aNil))) [some (encT T), some (.list []), none, none] () = .ok ((down 101).map PyData.int, ()) := by
    unfold iRg3
    walk_at "ev"
    rw [show (0 : Int) - 1 = -1 from rfl, ← rngL_down]
    rfl
  walk_at "ev"
  unfold sFor
  rw [hi, bnd_ok]
  have e' : encP [] = .list [] := rfl
  rw [e'] at e
  rw [e]
  walk_at "ev"
  rw [crv_eq g]
end DL

/-! M3: curves as such -/
namespace DL
open PySem PySem.Spec PyProof.Rows L2
local macro_rules | `(tactic| walk_at "ev") => `(tactic| simp only [szL, Nat.reduceLeDiff, mBody, mBodyD, outP, outD, cVar, cC, cOp, cUn, cTest, cAndT, cOrT, cNotT, cAndV, cOrV, cIf, aNil, aCons, cTup, cLst, cSl, oNone, oSome, cCall, cCallF, cCallD, cMeth, noX', isL_list, isL_encP, tYesD, bnd_ok, bnd_exc, bnd_bad, lft_ok, lft_exc, lft_bad, isOk_ok, isOk_exc, isOk_bad, isD_int, isD_bool, isD_none, isD_str, isD_list, isD_tuple, isD_eP, isD_eT, isD_encP, isD_encT, allD, List.all_cons, List.all_nil, Bool.and_self, Bool.and_true, Bool.true_and, if_true, if_false, Bool.false_eq_true, ite_true, ite_false, reduceIte, List.length_cons, List.length_nil, List.map_cons, List.map_nil, List.cons_append, List.nil_append, List.replicate_succ, List.replicate_zero, List.getElem?_cons_zero, List.getElem?_cons_succ, List.set_cons_zero, List.set_cons_succ, wipeD, sSeq, sSet, sAsg, sRet, sIf, sExpr, sNil, sRaise, sSetF, sApp, sAug, sAugL, sPar, sPar3, fLst, bNm, bTup, bCons, bNil, pNot, pIsi, isiT, tyN, pNeg, Nat.reduceAdd, decide_true, decide_false, Bool.not_true, Bool.not_false, noX_ok, pLe_i, pLt_i, pGt_i, pGe_i, pAdd_i, pSub_i, pLen_l, pLen_t, pIx_t0, pIx_t1, pEq_i, pNe_i])
local macro_rules | `(tactic| walk_at "evs") => `(tactic| simp [szL, mBody, mBodyD, outP, outD, cVar, cC, cOp, cUn, cTest, cAndT, cOrT, cNotT, cAndV, cOrV, cIf, aNil, aCons, cTup, cLst, cSl, oNone, oSome, cCall, cCallF, cCallD, cMeth, noX', isL_list, isL_encP, tYesD, bnd_ok, bnd_exc, bnd_bad, lft_ok, lft_exc, lft_bad, isOk_ok, isOk_exc, isOk_bad, isD_int, isD_bool, isD_none, isD_str, isD_list, isD_tuple, isD_eP, isD_eT, isD_encP, isD_encT, allD, List.all_cons, List.all_nil, List.map_cons, List.map_nil, List.cons_append, List.nil_append, List.replicate_succ, List.replicate_zero, List.getElem?_cons_zero, List.getElem?_cons_succ, List.set_cons_zero, List.set_cons_succ, wipeD, sSeq, sSet, sAsg, sRet, sIf, sExpr, sNil, sRaise, sSetF, sApp, sAug, sAugL, sPar, sPar3, fLst, bNm, bTup, bCons, bNil, pNot, pIsi, isiT, tyN, pNeg, noX_ok, pLe_i, pLt_i, pGt_i, pGe_i, pAdd_i, pSub_i, pLen_l, pLen_t, pIx_t0, pIx_t1, pEq_i, pNe_i])
local macro_rules | `(tactic| walk_at "evx") => `(tactic| simp [szL, mBody, mBodyD, outP, outD, cVar, cC, cOp, cUn, cTest, cAndT, cOrT, cNotT, cAndV, cOrV, cIf, aNil, aCons, cTup, cLst, cSl, oNone, oSome, cCall, cCallF, cCallD, cMeth, noX', isL_list, isL_encP, tYesD, bnd_ok, bnd_exc, bnd_bad, lft_ok, lft_exc, lft_bad, isOk_ok, isOk_exc, isOk_bad, isD_int, isD_bool, isD_none, isD_str, isD_list, isD_tuple, isD_eP, isD_eT, isD_encP, isD_encT, allD, List.all_cons, List.all_nil, List.map_cons, List.map_nil, List.cons_append, List.nil_append, List.replicate_succ, List.replicate_zero, List.getElem?_cons_zero, List.getElem?_cons_succ, List.set_cons_zero, List.set_cons_succ, wipeD, sSeq, sSet, sAsg, sRet, sIf, sExpr, sNil, sRaise, sSetF, sApp, sAug, sAugL, sPar, sPar3, fLst, bNm, bTup, bCons, bNil, pNot, pIsi, isiT, tyN, pNeg, noX_ok, pLe_i, pLt_i, pGt_i, pGe_i, pAdd_i, pSub_i, pLen_l, pLen_t, pIx_t0, pIx_t1, pEq_i, pNe_i, *])
theorem sForGo_pass {d a : Type} {bd : Bd} {body : Env → d → R (Fl × d)} (enc : a → PD) (Ok : Env → Prop) (s : d) (xs : List a) (ρ : Env) (h0 : Ok ρ)
    (h : ∀ x ∈ xs, ∀ ρ, Ok ρ → ∃ ρ1 ρ2, bd (enc x) ρ = some ρ1 ∧ body ρ1 s = .ok (.nx ρ2, s) ∧ Ok ρ2) : ∃ ρ', sForGo bd body (xs.map enc) ρ s = .ok (.nx ρ', s) ∧ Ok ρ' := by
  obtain ⟨ρ', s', e, i, j⟩ := sForGo_inv (bd := bd) (body := body) enc (fun _ ρ s' => Ok ρ ∧ s' = s) xs [] ρ s ⟨h0, rfl⟩ fun p x q ρ s' hp hi => by
    obtain ⟨hi, rfl⟩ := hi
    obtain ⟨ρ1, ρ2, h1, h2, h3⟩ := h x (by rw [List.nil_append] at hp; rw [hp]; simp) ρ hi
    exact ⟨ρ1, ρ2, s', h1, h2, h3, rfl⟩
  subst j
  exact ⟨ρ', e, i⟩
/-! ### slices -/
theorem cut_1 {a : Type} (xs : List a) : cutD xs (some 1) none = xs.drop 1 := by
  unfold cutD
  rw [show HT.sIx xs.length 0 (some 1) = min 1 xs.length from HT.sIx_nat xs.length 0 1, HT.sIx_none]
  cases xs with
  | nil => rfl
  | cons x r =>
    rw [show min 1 (x :: r).length = 1 by rw [List.length_cons]; omega]
    show List.take ((x :: r).length - 1) r = r
    rw [List.length_cons, Nat.add_sub_cancel]
    exact List.take_length
theorem zipD_map {a b : Type} (e : a → PD) (f : b → PD) : ∀ (xs : List a) (ys : List b), zipD (xs.map e) (ys.map f) = (xs.zip ys).map fun p => PyData.tuple [e p.1, f p.2]
  | [], _ => by simp [zipD]
  | _ :: _, [] => by simp [zipD]
  | x :: xs, y :: ys => by simp [zipD, zipD_map e f xs ys]
/-! ### a curve -/
def Up (p q : Pt) : Prop := p.1 ≤ q.1 ∧ p.2 ≤ q.2 ∧ p ≠ q
structure CrvOk (P : List Pt) : Prop where
  l2 : 2 ≤ P.length
  l13 : P.length ≤ 13
  hd : P.head? = some (0, 0)
  rng : ∀ p ∈ P, 0 ≤ p.1 ∧ p.1 ≤ 12 ∧ 0 ≤ p.2 ∧ p.2 ≤ 12
  up : P.Pairwise Up
  last : ∀ p, P.getLast? = some p → p.1 + p.2 ≤ 12
theorem zip_tail_mem {a : Type} {Rr : a → a → Prop} : ∀ {l : List a}, l.Pairwise Rr → ∀ p ∈ l.zip (l.drop 1), Rr p.1 p.2
  | [], _, p, h => by simp at h
  | [x], _, p, h => by simp at h
  | x :: y :: l, hp, p, h => by
    have hp' := List.pairwise_cons.mp hp
    rw [show (x :: y :: l).drop 1 = y :: l from rfl, List.zip_cons_cons] at h
    rcases List.mem_cons.mp h with e | e
    · rw [e]; exact hp'.1 y (by simp)
    · exact zip_tail_mem hp'.2 p e
theorem atI_last_map {a : Type} (e : a → PD) (l : List a) (x : a) (h : l.getLast? = some x) : L2.atI (l.map e) (-1) = some (e x) := by
  have hn : l ≠ [] := fun z => by rw [z] at h; cases h
  have hl : 0 < l.length := List.length_pos_iff.mpr hn
  unfold L2.atI ixN
  rw [if_neg (by decide), List.length_map, if_pos (by omega)]
  show (l.map e)[(-1 + (l.length : Int)).toNat]? = _
  rw [List.getElem?_map, show (-1 + (l.length : Int)).toNat = l.length - 1 by omega, ← List.getLast?_eq_getElem?, h]
  rfl
theorem atI_nat_map {a : Type} (e : a → PD) (l : List a) (i : Nat) (x : a) (h : l[i]? = some x) : L2.atI (l.map e) (i : Int) = some (e x) := by
  have hl : i < l.length := (List.getElem?_eq_some_iff.mp h).1
  unfold L2.atI ixN
  rw [if_pos (by omega), List.length_map, if_pos (by omega)]
  show (l.map e)[(i : Int).toNat]? = _
  rw [List.getElem?_map, Int.toNat_natCast, h]
  rfl
theorem pIx_last {a : Type} (e : a → PD) (l : List a) (x : a) (h : l.getLast? = some x) : pIx (.list (l.map e)) (.int (-1)) = .ok (e x) := by
  show (match L2.atI (l.map e) (-1) with | some d => R.ok d | none => R.bad) = _
  rw [atI_last_map e l x h]
theorem pIx_nat {a : Type} (e : a → PD) (l : List a) (i : Nat) (x : a) (h : l[i]? = some x) : pIx (.list (l.map e)) (.int (i : Int)) = .ok (e x) := by
  show (match L2.atI (l.map e) (i : Int) with | some d => R.ok d | none => R.bad) = _
  rw [atI_nat_map e l i x h]
theorem pIx_head {a : Type} (e : a → PD) (l : List a) (x : a) (h : l.head? = some x) : pIx (.list (l.map e)) (.int 0) = .ok (e x) := by
  have := pIx_nat e l 0 x (by rw [List.head?_eq_getElem?] at h; exact h)
  exact this
theorem eP_0 (p : Pt) : pIx (eP p) (.int 0) = .ok (.int p.1) := pIx_t0 _ _
theorem eP_1 (p : Pt) : pIx (eP p) (.int 1) = .ok (.int p.2) := pIx_t1 _ _ _
theorem isi_tup_eP (p : Pt) : isiT "tuple" (eP p) = true := rfl
theorem len_eP (p : Pt) : pLen [eP p] = .ok (.int 2) := rfl
theorem ev_seq {d : Type} {f g : Env → d → R (Fl × d)} {ρ ρ' : Env} {s s' : d} {r : R (Fl × d)} (h : f ρ s = .ok (.nx ρ', s')) (k : g ρ' s' = r) : sSeq f g ρ s = r := by
  unfold sSeq
  rw [h]
  exact k
theorem ev_seq_rt {d : Type} {f g : Env → d → R (Fl × d)} {ρ : Env} {s s' : d} {v : PD} (h : f ρ s = .ok (.rt v, s')) : sSeq f g ρ s = .ok (.rt v, s') := by
  unfold sSeq
  rw [h]
theorem ev_if {d : Type} {t : Env → d → R (Bool × d)} {f g : Env → d → R (Fl × d)} {ρ : Env} {s s' : d} {b : Bool} {r : R (Fl × d)} (h : t ρ s = .ok (b, s')) (k : (if b = true then f ρ s' else g ρ s') = r) : sIf t f g ρ s = r := by
  unfold sIf
  rw [h, bnd_ok]
  exact k
theorem ev_if_f {d : Type} {t : Env → d → R (Bool × d)} {f g : Env → d → R (Fl × d)} {ρ : Env} {s s' : d} {r : R (Fl × d)} (h : t ρ s = .ok (false, s')) (k : g ρ s' = r) : sIf t f g ρ s = r := by
  unfold sIf
  rw [h, bnd_ok]
  exact k
theorem ev_if_t {d : Type} {t : Env → d → R (Bool × d)} {f g : Env → d → R (Fl × d)} {ρ : Env} {s s' : d} {r : R (Fl × d)} (h : t ρ s = .ok (true, s')) (k : f ρ s' = r) : sIf t f g ρ s = r := by
  unfold sIf
  rw [h, bnd_ok]
  exact k
theorem ev_or_f {d : Type} {t u : Env → d → R (Bool × d)} {ρ : Env} {s s' : d} {r : R (Bool × d)} (h : t ρ s = .ok (false, s')) (k : u ρ s' = r) : cOrT t u ρ s = r := by
  unfold cOrT
  rw [h, bnd_ok]
  exact k
theorem ev_and_t {d : Type} {t u : Env → d → R (Bool × d)} {ρ : Env} {s s' : d} {r : R (Bool × d)} (h : t ρ s = .ok (true, s')) (k : u ρ s' = r) : cAndT t u ρ s = r := by
  unfold cAndT
  rw [h, bnd_ok]
  exact k
theorem ev_not {d : Type} {t : Env → d → R (Bool × d)} {ρ : Env} {s s' : d} {b : Bool} (h : t ρ s = .ok (b, s')) : cNotT t ρ s = .ok (!b, s') := by
  unfold cNotT
  rw [h, bnd_ok]
theorem ev_test {d : Type} {e : Env → d → R (PD × d)} {ρ : Env} {s s' : d} {b : Bool} (h : e ρ s = .ok (.bool b, s')) : cTest e ρ s = .ok (b, s') := by
  unfold cTest
  rw [h]
  rfl
theorem ev_for {d : Type} {it : Env → d → R (List PD × d)} {bd : Bd} {body : Env → d → R (Fl × d)} {ρ : Env} {s s' : d} {xs : List PD} {r : R (Fl × d)} (hi : it ρ s = .ok (xs, s')) (h : sForGo bd body xs ρ s' = r) : sFor it bd body ρ s = r := by
  unfold sFor
  rw [hi, bnd_ok]
  exact h
theorem ev_for_pass {d a : Type} {it : Env → d → R (List PD × d)} {bd : Bd} {body g : Env → d → R (Fl × d)} {ρ : Env} {s : d} {r : R (Fl × d)} (xs : List a) (enc : a → PD) (Ok : Env → Prop) (hi : it ρ s = .ok (xs.map enc, s)) (h0 : Ok ρ)
    (h : ∀ x ∈ xs, ∀ ρ, Ok ρ → ∃ ρ1 ρ2, bd (enc x) ρ = some ρ1 ∧ body ρ1 s = .ok (.nx ρ2, s) ∧ Ok ρ2) (k : ∀ ρ', Ok ρ' → g ρ' s = r) : sSeq (sFor it bd body) g ρ s = r := by
  obtain ⟨ρ', e, o⟩ := sForGo_pass enc Ok s xs ρ h0 h
  exact ev_seq (ev_for hi e) (k ρ' o)
theorem mBody_of {n : Nat} {f : Env → Unit → R (Fl × Unit)} {ds : List PD} {v : PD} (h : f (ds.map some ++ List.replicate n none) () = .ok (.rt v, ())) : mBody n f ds = .ok v := by
  unfold mBody
  rw [h]
  rfl
theorem ret_of {d : Type} {e : Env → d → R (PD × d)} {ρ : Env} {s s' : d} {v : PD} (h : e ρ s = .ok (v, s')) (hv : isD v = true) : sRet e ρ s = .ok (.rt v, s') := by
  unfold sRet
  rw [h, bnd_ok]
theorem ev_op {d : Type} {f : PD → PD → R PD} {a b : Env → d → R (PD × d)} {ρ : Env} {s s1 s2 : d} {x y z : PD} (ha : a ρ s = .ok (x, s1)) (hb : b ρ s1 = .ok (y, s2)) (hf : f x y = .ok z) (hx : isD x = true := by rfl) (hy : isD y = true := by rfl) : cOp f a b ρ s = .ok (z, s2) := by
  unfold cOp
  rw [ha, bnd_ok, hb, bnd_ok, hx, hy, hf]
  rfl
theorem ev_a1 {d : Type} {a : Env → d → R (PD × d)} {ρ : Env} {s s1 : d} {x : PD} (ha : a ρ s = .ok (x, s1)) : aCons a aNil ρ s = .ok ([x], s1) := by
  unfold aCons aNil
  rw [ha]
  rfl
theorem ev_aC {d : Type} {a : Env → d → R (PD × d)} {as : Env → d → R (List PD × d)} {ρ : Env} {s s1 s2 : d} {x : PD} {xs : List PD} (ha : a ρ s = .ok (x, s1)) (has : as ρ s1 = .ok (xs, s2)) : aCons a as ρ s = .ok (x :: xs, s2) := by
  unfold aCons
  rw [ha, bnd_ok, has]
  rfl
theorem ev_callF {d : Type} {n : Nat} {m : List PD → R PD} {as : Env → d → R (List PD × d)} {ρ : Env} {s s1 : d} {xs : List PD} {v : PD} (ha : as ρ s = .ok (xs, s1)) (hm : m xs = .ok v) (hn : xs.length = n := by rfl) : cCallF n m as ρ s = .ok (v, s1) := by
  unfold cCallF
  rw [ha, bnd_ok, if_pos hn, hm]
  rfl
theorem ev_call {d : Type} {m : List PD → R PD} {as : Env → d → R (List PD × d)} {ρ : Env} {s s1 : d} {xs : List PD} {v : PD} (ha : as ρ s = .ok (xs, s1)) (hm : m xs = .ok v) (hd : allD xs = true := by rfl) : cCall m as ρ s = .ok (v, s1) := by
  unfold cCall
  rw [ha, bnd_ok, hd, hm]
  rfl
theorem ev_callD {n : Nat} {m : List PD → Dr → R (PD × Dr)} {as : Env → Dr → R (List PD × Dr)} {ρ : Env} {s s1 s2 : Dr} {xs : List PD} {v : PD} (ha : as ρ s = .ok (xs, s1)) (hm : m xs s1 = .ok (v, s2)) (hn : xs.length = n := by rfl) : cCallD n m as ρ s = .ok (v, s2) := by
  unfold cCallD
  rw [ha, bnd_ok, if_pos hn, hm]
  rfl
theorem ev_set {d : Type} {i : Nat} {e : Env → d → R (PD × d)} {ρ : Env} {s s1 : d} {v : PD} (h : e ρ s = .ok (v, s1)) : sSet i e ρ s = .ok (.nx (ρ.set i (some v)), s1) := by
  unfold sSet
  rw [h]
  rfl
theorem ev_exp {d : Type} {e : Env → d → R (PD × d)} {ρ : Env} {s s1 : d} {v : PD} (h : e ρ s = .ok (v, s1)) : sExpr e ρ s = .ok (.nx ρ, s1) := by
  unfold sExpr
  rw [h]
  rfl
theorem ev_and {d : Type} {a b : Env → d → R (PD × d)} {ρ : Env} {s s1 : d} {r : R (PD × d)} (ha : a ρ s = .ok (.bool true, s1)) (hb : b ρ s1 = r) : cAndV a b ρ s = r := by
  unfold cAndV
  rw [ha, bnd_ok]
  exact hb
theorem ev_un {d : Type} {f : PD → R PD} {a : Env → d → R (PD × d)} {ρ : Env} {s s1 : d} {x v : PD} (ha : a ρ s = .ok (x, s1)) (hf : f x = .ok v) (hx : isD x = true := by rfl) : cUn f a ρ s = .ok (v, s1) := by
  unfold cUn
  rw [ha, bnd_ok, hx, hf]
  rfl
theorem m_is_points_eq {P : List Pt} (g : CrvOk P) : m_is_points [encP P] = .ok (.bool true) := by
  refine mBody_of ?_
  unfold b_is_points
  obtain ⟨last, hlast⟩ : ∃ p, P.getLast? = some p := by
    cases h : P.getLast? with
    | none => rw [List.getLast?_eq_none_iff] at h; have := g.l2; rw [h] at this; simp at this
    | some p => exact ⟨p, rfl⟩
  have h2 := g.l2
  have h13 := g.l13
  have e1 : decide ((2 : Int) ≤ (P.length : Int)) = true := decide_eq_true (by omega)
  have e2 : decide ((P.length : Int) ≤ 13) = true := decide_eq_true (by omega)
  have hhd : pIx (encP P) (.int 0) = .ok (eP (0, 0)) := pIx_head eP P _ g.hd
  refine ev_seq (ρ' := [some (encP P), none, none, none, none]) (s' := ()) (ev_if_f (ev_or_f (s' := ()) rfl (ev_or_f (s' := ()) (ev_not (b := true) (ev_test ?_)) (ev_test ?_))) rfl) ?_
  · rw [chain_le (d := Unit) _ _ _ _ () 2 P.length 13 rfl (by unfold encP; walk_at "ev"; rw [List.length_map]) rfl, e1, e2]; rfl
  · walk_at "ev"
    rw [hhd]
    walk_at "ev"
    rw [show PyData.tuple [.int 0, .int 0] = eP (0, 0) from rfl, pNe_eP]
    rfl
  refine ev_for_pass P eP (fun ρ => ∃ a b c d, ρ = [some (encP P), a, b, c, d]) rfl ⟨none, none, none, none, rfl⟩ ?_ ?_
  · rintro p hp _ ⟨a, b, c, d, rfl⟩
    refine ⟨[some (encP P), some (eP p), b, c, d], [some (encP P), some (eP p), b, c, d], rfl, ?_, ⟨_, _, _, _, rfl⟩⟩
    obtain ⟨k1, k2, k3, k4⟩ := g.rng p hp
    refine ev_if_f (s' := ()) (ev_or_f (s' := ()) rfl (ev_or_f (s' := ()) rfl (ev_not (b := true) (ev_test ?_)))) rfl
    walk_at "ev"
    rw [cComp_map [p.1, p.2] PyData.int (fun _ => .bool true)]
    · rfl
    · rfl
    · simp
    · intro x hx
      refine ⟨_, rfl, ?_, rfl⟩
      have hx' : 0 ≤ x ∧ x ≤ 12 := by
        simp only [List.mem_cons, List.not_mem_nil, or_false] at hx
        rcases hx with rfl | rfl
        · exact ⟨k1, k2⟩
        · exact ⟨k3, k4⟩
      walk_at "ev"
      rw [m_is_int_int, decide_eq_true hx'.1, decide_eq_true hx'.2]
      rfl
  rintro _ ⟨a, b, c, d, rfl⟩
  refine ev_for_pass (P.zip (P.drop 1)) (fun p => .tuple [eP p.1, eP p.2]) (fun ρ => ∃ a b c d, ρ = [some (encP P), a, b, c, d]) ?_ ⟨a, b, c, d, rfl⟩ ?_ ?_
  · rw [← zipD_map, List.map_drop, ← cut_1]
    rfl
  · rintro p hp _ ⟨a, b, c, d, rfl⟩
    obtain ⟨u1, u2, u3⟩ := zip_tail_mem g.up p hp
    refine ⟨[some (encP P), a, some (eP p.1), some (eP p.2), d], _, rfl, ev_if_f (s' := ()) (ev_or_f (s' := ()) (ev_test ?_) (ev_or_f (s' := ()) (ev_test ?_) (ev_test ?_))) rfl, ⟨_, _, _, _, rfl⟩⟩
    · walk_at "ev"
      rw [eP_0, eP_0]
      walk_at "ev"
      rw [decide_eq_false (by omega)]
    · walk_at "ev"
      rw [eP_1, eP_1]
      walk_at "ev"
      rw [decide_eq_false (by omega)]
    · walk_at "ev"
      rw [pEq_eP, decide_eq_false u3]
      rfl
  rintro _ ⟨a, b, c, d, rfl⟩
  refine ret_of ?_ rfl
  walk_at "ev"
  rw [show pIx (encP P) (.int (-1)) = .ok (eP last) from pIx_last eP P last hlast]
  walk_at "ev"
  rw [show pSum [eP last] = .ok (.int (last.1 + last.2)) from by simp [pSum, eP, toInts]]
  walk_at "ev"
  rw [decide_eq_true (g.last last hlast)]
end DL

/-! M4: draws; the curve is a curve -/
namespace DL
open PySem PySem.Spec PyProof.Rows L2
local macro_rules | `(tactic| walk_at "ev") => `(tactic| simp only [szL, Nat.reduceLeDiff, mBody, mBodyD, outP, outD, cVar, cC, cOp, cUn, cTest, cAndT, cOrT, cNotT, cAndV, cOrV, cIf, aNil, aCons, cTup, cLst, cSl, oNone, oSome, cCall, cCallF, cCallD, cMeth, noX', isL_list, isL_encP, tYesD, bnd_ok, bnd_exc, bnd_bad, lft_ok, lft_exc, lft_bad, isOk_ok, isOk_exc, isOk_bad, isD_int, isD_bool, isD_none, isD_str, isD_list, isD_tuple, isD_eP, isD_eT, isD_encP, isD_encT, allD, List.all_cons, List.all_nil, Bool.and_self, Bool.and_true, Bool.true_and, if_true, if_false, Bool.false_eq_true, ite_true, ite_false, reduceIte, List.length_cons, List.length_nil, List.map_cons, List.map_nil, List.cons_append, List.nil_append, List.replicate_succ, List.replicate_zero, List.getElem?_cons_zero, List.getElem?_cons_succ, List.set_cons_zero, List.set_cons_succ, wipeD, sSeq, sSet, sAsg, sRet, sIf, sExpr, sNil, sRaise, sSetF, sApp, sAug, sAugL, sPar, sPar3, fLst, bNm, bTup, bCons, bNil, pNot, pIsi, isiT, tyN, pNeg, Nat.reduceAdd, decide_true, decide_false, Bool.not_true, Bool.not_false, noX_ok, pLe_i, pLt_i, pGt_i, pGe_i, pAdd_i, pSub_i, pLen_l, pLen_t, pIx_t0, pIx_t1, pEq_i, pNe_i])
local macro_rules | `(tactic| walk_at "evs") => `(tactic| simp [szL, mBody, mBodyD, outP, outD, cVar, cC, cOp, cUn, cTest, cAndT, cOrT, cNotT, cAndV, cOrV, cIf, aNil, aCons, cTup, cLst, cSl, oNone, oSome, cCall, cCallF, cCallD, cMeth, noX', isL_list, isL_encP, tYesD, bnd_ok, bnd_exc, bnd_bad, lft_ok, lft_exc, lft_bad, isOk_ok, isOk_exc, isOk_bad, isD_int, isD_bool, isD_none, isD_str, isD_list, isD_tuple, isD_eP, isD_eT, isD_encP, isD_encT, allD, List.all_cons, List.all_nil, List.map_cons, List.map_nil, List.cons_append, List.nil_append, List.replicate_succ, List.replicate_zero, List.getElem?_cons_zero, List.getElem?_cons_succ, List.set_cons_zero, List.set_cons_succ, wipeD, sSeq, sSet, sAsg, sRet, sIf, sExpr, sNil, sRaise, sSetF, sApp, sAug, sAugL, sPar, sPar3, fLst, bNm, bTup, bCons, bNil, pNot, pIsi, isiT, tyN, pNeg, noX_ok, pLe_i, pLt_i, pGt_i, pGe_i, pAdd_i, pSub_i, pLen_l, pLen_t, pIx_t0, pIx_t1, pEq_i, pNe_i])
local macro_rules | `(tactic| walk_at "evx") => `(tactic| simp [szL, mBody, mBodyD, outP, outD, cVar, cC, cOp, cUn, cTest, cAndT, cOrT, cNotT, cAndV, cOrV, cIf, aNil, aCons, cTup, cLst, cSl, oNone, oSome, cCall, cCallF, cCallD, cMeth, noX', isL_list, isL_encP, tYesD, bnd_ok, bnd_exc, bnd_bad, lft_ok, lft_exc, lft_bad, isOk_ok, isOk_exc, isOk_bad, isD_int, isD_bool, isD_none, isD_str, isD_list, isD_tuple, isD_eP, isD_eT, isD_encP, isD_encT, allD, List.all_cons, List.all_nil, List.map_cons, List.map_nil, List.cons_append, List.nil_append, List.replicate_succ, List.replicate_zero, List.getElem?_cons_zero, List.getElem?_cons_succ, List.set_cons_zero, List.set_cons_succ, wipeD, sSeq, sSet, sAsg, sRet, sIf, sExpr, sNil, sRaise, sSetF, sApp, sAug, sAugL, sPar, sPar3, fLst, bNm, bTup, bCons, bNil, pNot, pIsi, isiT, tyN, pNeg, noX_ok, pLe_i, pLt_i, pGt_i, pGe_i, pAdd_i, pSub_i, pLen_l, pLen_t, pIx_t0, pIx_t1, pEq_i, pNe_i, *])
def Live (s : Dr) : Prop := 0 < s.1.length
theorem draw_ev {lim : Int} (h1 : 0 < lim) (h2 : lim < 1073741824) {s : Dr} (hs : Live s) : ∃ x s', m__law_draw [tokD 0, .int lim] s = .ok (.int x, s') ∧ 0 ≤ x ∧ x < lim ∧ Live s' := by
  refine ⟨(drawM lim s).1, (drawM lim s).2, ?_, (drawM_range h1 s).1, (drawM_range h1 s).2, ?_⟩
  · show (if 0 < lim ∧ lim < 1073741824 ∧ 0 < s.1.length then _ else _) = _
    rw [if_pos ⟨h1, h2, hs⟩]
  · unfold Live
    rw [drawM_len]
    exact hs
theorem pick_ev {cs : List PD} (h1 : 0 < cs.length) (h2 : cs.length < 1000) {s : Dr} (hs : Live s) : ∃ c s', m__law_pick [tokD 0, .list cs] s = .ok (c, s') ∧ c ∈ cs ∧ Live s' := by
  obtain ⟨x, s', e, l, u, v⟩ := draw_ev (lim := (cs.length : Int)) (by omega) (by omega) hs
  have hx : x.toNat < cs.length := by omega
  refine ⟨cs[x.toNat], s', ?_, List.getElem_mem hx, v⟩
  unfold m__law_pick b__law_pick
  walk_at "ev"
  rw [e]
  walk_at "ev"
  have := pIx_nat (fun d : PD => d) cs x.toNat cs[x.toNat] (List.getElem?_eq_getElem hx)
  rw [List.map_id', Int.toNat_of_nonneg l] at this
  rw [this]
  rfl
theorem rngL_01 (n : Nat) : rngL 0 1 n = ((List.range n).map fun (i : Nat) => (i : Int)).map PyData.int := by
  unfold rngL
  rw [List.map_map]
  apply List.map_congr_left
  intro i _
  show PyData.int (0 + (i : Int) * 1) = PyData.int (i : Int)
  congr 1; omega
theorem in62_ok {j : Int} (h1 : -1000000 ≤ j) (h2 : j ≤ 1000000) : in62 j = true := by
  unfold in62
  rw [Bool.and_eq_true, decide_eq_true_eq, decide_eq_true_eq]
  constructor <;> omega
theorem list_map_of {a : Type} (e : a → PD) (Q : a → Prop) : ∀ ys : List PD, (∀ y ∈ ys, ∃ x, y = e x ∧ Q x) → ∃ xs : List a, ys = xs.map e ∧ ∀ x ∈ xs, Q x
  | [], _ => ⟨[], rfl, fun x h => by cases h⟩
  | y :: ys, h => by
    obtain ⟨x, rfl, q⟩ := h y (by simp)
    obtain ⟨xs, rfl, qs⟩ := list_map_of e Q ys fun z hz => h z (List.mem_cons_of_mem _ hz)
    exact ⟨x :: xs, rfl, fun z hz => by
      rcases List.mem_cons.mp hz with e | e
      · rw [e]; exact q
      · exact qs z e⟩
theorem things_ev {most : Int} (h1 : 1 ≤ most) (h2 : most ≤ 12) {s : Dr} (hs : Live s) : ∃ T s', m__law_things [tokD 0, .int most] s = .ok (encT T, s') ∧ GoodT T ∧ (T.length : Int) ≤ most ∧ Live s' := by
  obtain ⟨c, s1, e1, m1, v1⟩ := pick_ev (cs := [.int 2, .int 5, .int 12, .int 100]) (by decide) (by decide) hs
  obtain ⟨wide, rfl, w1, w2⟩ : ∃ w, c = .int w ∧ 2 ≤ w ∧ w ≤ 100 := by
    simp only [List.mem_cons, List.not_mem_nil, or_false] at m1
    rcases m1 with rfl | rfl | rfl | rfl
    · exact ⟨2, rfl, by decide, by decide⟩
    · exact ⟨5, rfl, by decide, by decide⟩
    · exact ⟨12, rfl, by decide, by decide⟩
    · exact ⟨100, rfl, by decide, by decide⟩
  obtain ⟨n, s2, e2, n1, n2, v2⟩ := draw_ev (lim := most) (by omega) (by omega) v1
  have key := compGo_eff (b := bNm 3) (own := [3]) (f := cTup (aCons (cCallD 2 m__law_draw (aCons (cVar 0) (aCons (cVar 2) aNil))) (aCons (cOp pEq (cCallD 2 m__law_draw (aCons (cVar 0) (aCons (cC (.int 2)) aNil))) (cC (.int 0))) aNil)))
    (ρ := [some (tokD 0), some (.int most), some (.int wide), none]) PyData.int Live (fun y => ∃ x : Th, y = eT x ∧ 0 ≤ x.1 ∧ x.1 ≤ 99) ((List.range (1 + n).toNat).map fun (i : Nat) => (i : Int)) s2 v2 fun x _ s hs => by
      obtain ⟨a, t1, f1, a1, a2, g1⟩ := draw_ev (lim := wide) (by omega) (by omega) hs
      obtain ⟨b, t2, f2, b1, b2, g2⟩ := draw_ev (lim := 2) (by omega) (by omega) g1
      refine ⟨[some (tokD 0), some (.int most), some (.int wide), some (.int x)], eT (a, decide (b = 0)), t2, rfl, ?_, rfl, ⟨_, rfl, a1, by show a ≤ 99; omega⟩, g2⟩
      walk_at "ev"
      rw [f1]
      walk_at "ev"
      rw [f2]
      walk_at "ev"
      rfl
  obtain ⟨ys, s3, e3, l3, p3, v3⟩ := key
  obtain ⟨T, rfl, q⟩ := list_map_of eT (fun x => 0 ≤ x.1 ∧ x.1 ≤ 99) ys p3
  simp only [List.length_map, List.length_range] at l3
  refine ⟨T, s3, ?_, ⟨by omega, by omega, q⟩, by omega, v3⟩
  unfold m__law_things b__law_things
  walk_at "ev"
  rw [e1]
  walk_at "ev"
  unfold cComp iRg1
  walk_at "ev"
  rw [e2]
  walk_at "ev"
  rw [if_pos (in62_ok (by omega) (by omega)), bnd_ok, if_pos (by simp [rngL]; omega), rngL_01, e3]
  rfl
theorem pts_head (T : List Th) : (pts T).head? = some (0, 0) := rfl
theorem pts_len (T : List Th) : (pts T).length = (scs T).length + 1 := by simp [pts]
theorem al_bound (T : List Th) (t : Int) : 0 ≤ al T t ∧ al T t ≤ T.length := by
  unfold al
  have := List.length_filter_le (fun x : Th => decide (t ≤ x.1)) T
  omega
theorem fa_nn (T : List Th) (t : Int) : 0 ≤ fa T t := by unfold fa; omega
theorem tr_nn (T : List Th) (t : Int) : 0 ≤ tr T t := by unfold tr; omega
theorem up_cnt (T : List Th) {s t : Int} (h : s < t) (m : s ∈ scs T) : Up (cnt T t) (cnt T s) := by
  refine ⟨fa_mono T (by omega), tr_mono T (by omega), fun e => ?_⟩
  have h1 := al_lt T h m
  rw [← al_sum, ← al_sum] at h1
  have e1 : fa T t = fa T s := congrArg Prod.fst e
  have e2 : tr T t = tr T s := congrArg Prod.snd e
  omega
theorem pts_up {T : List Th} (g : GoodT T) : (pts T).Pairwise Up := by
  unfold pts
  refine List.pairwise_cons.mpr ⟨fun p hp => ?_, ?_⟩
  · obtain ⟨t, ht, rfl⟩ := List.mem_map.mp hp
    rw [← cnt_top g (t := 100) (Int.le_refl _)]
    obtain ⟨x, hx, rfl⟩ := mem_scs.mp ht
    have := g.sc x hx
    exact up_cnt T (by omega) ht
  · rw [List.pairwise_map]
    exact List.Pairwise.imp_of_mem (fun {a b} ha hb hab => up_cnt T hab hb) (scs_gt T)
theorem cnt_low {T : List Th} {s t : Int} (h : ∀ x ∈ T, s ≤ x.1) (hst : t ≤ s) : cnt T t = cnt T s := by
  unfold cnt fa tr
  have e1 : (T.filter fun x => decide (t ≤ x.1) && !x.2) = T.filter fun x => decide (s ≤ x.1) && !x.2 := List.filter_congr fun x m => by
    have := h x m
    rw [decide_eq_true (by omega), decide_eq_true (by omega)]
  have e2 : (T.filter fun x => decide (t ≤ x.1) && x.2) = T.filter fun x => decide (s ≤ x.1) && x.2 := List.filter_congr fun x m => by
    have := h x m
    rw [decide_eq_true (by omega), decide_eq_true (by omega)]
  rw [e1, e2]
theorem scs_ne {T : List Th} (g : GoodT T) : scs T ≠ [] := fun e => by
  cases T with
  | nil => have := g.l1; simp at this
  | cons x T =>
    have : x.1 ∈ scs (x :: T) := mem_scs.mpr ⟨x, by simp, rfl⟩
    rw [e] at this
    cases this
theorem scs_last {T : List Th} (g : GoodT T) : ∃ s, (scs T).getLast? = some s ∧ s ∈ scs T ∧ ∀ x ∈ T, s ≤ x.1 := by
  have hn := scs_ne g
  refine ⟨(scs T).getLast hn, List.getLast?_eq_some_getLast hn, List.getLast_mem hn, fun x hx => ?_⟩
  have hm : x.1 ∈ scs T := mem_scs.mpr ⟨x, hx, rfl⟩
  have hp := scs_gt T
  rw [← List.dropLast_concat_getLast hn] at hm hp
  rw [List.pairwise_append] at hp
  rcases List.mem_append.mp hm with z | z
  · have := hp.2.2 _ z ((scs T).getLast hn) (by simp)
    omega
  · simp only [List.mem_cons, List.not_mem_nil, or_false] at z
    omega
theorem pts_last {T : List Th} (g : GoodT T) : (pts T).getLast? = some (cnt T 0) := by
  obtain ⟨s, h1, h2, h3⟩ := scs_last g
  obtain ⟨x, hx, e⟩ := mem_scs.mp h2
  have := g.sc x hx
  rw [cnt_low h3 (t := 0) (by omega)]
  unfold pts
  rw [List.getLast?_cons, List.getLast?_map, h1]
  rfl
theorem cnt_rng {T : List Th} (g : GoodT T) (t : Int) : 0 ≤ (cnt T t).1 ∧ 0 ≤ (cnt T t).2 ∧ (cnt T t).1 + (cnt T t).2 ≤ 12 := by
  refine ⟨fa_nn T t, tr_nn T t, ?_⟩
  show fa T t + tr T t ≤ 12
  rw [al_sum]
  have := al_bound T t
  have := g.l2
  omega
theorem pts_rng {T : List Th} (g : GoodT T) : ∀ p ∈ pts T, 0 ≤ p.1 ∧ 0 ≤ p.2 ∧ p.1 + p.2 ≤ 12 := fun p hp => by
  rcases List.mem_cons.mp hp with e | e
  · subst e; decide
  · obtain ⟨t, _, rfl⟩ := List.mem_map.mp e
    exact cnt_rng g t
theorem pts_ok {T : List Th} (g : GoodT T) : CrvOk (pts T) := by
  have h1 := scs_len T
  have h2 : 0 < (scs T).length := List.length_pos_iff.mpr (scs_ne g)
  have h3 := g.l2
  refine ⟨by rw [pts_len]; omega, by rw [pts_len]; omega, rfl, fun p hp => ?_, pts_up g, fun p hp => ?_⟩
  · have := pts_rng g p hp
    omega
  · exact (pts_rng g p (List.mem_of_getLast? hp)).2.2
end DL

/-! M5: thresholds_for, most_true, least_false -/
namespace DL
open PySem PySem.Spec PyProof.Rows L2
local macro_rules | `(tactic| walk_at "ev") => `(tactic| simp only [szL, Nat.reduceLeDiff, mBody, mBodyD, outP, outD, cVar, cC, cOp, cUn, cTest, cAndT, cOrT, cNotT, cAndV, cOrV, cIf, aNil, aCons, cTup, cLst, cSl, oNone, oSome, cCall, cCallF, cCallD, cMeth, noX', isL_list, isL_encP, tYesD, bnd_ok, bnd_exc, bnd_bad, lft_ok, lft_exc, lft_bad, isOk_ok, isOk_exc, isOk_bad, isD_int, isD_bool, isD_none, isD_str, isD_list, isD_tuple, isD_eP, isD_eT, isD_encP, isD_encT, allD, List.all_cons, List.all_nil, Bool.and_self, Bool.and_true, Bool.true_and, if_true, if_false, Bool.false_eq_true, ite_true, ite_false, reduceIte, List.length_cons, List.length_nil, List.map_cons, List.map_nil, List.cons_append, List.nil_append, List.replicate_succ, List.replicate_zero, List.getElem?_cons_zero, List.getElem?_cons_succ, List.set_cons_zero, List.set_cons_succ, wipeD, sSeq, sSet, sAsg, sRet, sIf, sExpr, sNil, sRaise, sSetF, sApp, sAug, sAugL, sPar, sPar3, fLst, bNm, bTup, bCons, bNil, pNot, pIsi, isiT, tyN, pNeg, Nat.reduceAdd, decide_true, decide_false, Bool.not_true, Bool.not_false, noX_ok, pLe_i, pLt_i, pGt_i, pGe_i, pAdd_i, pSub_i, pLen_l, pLen_t, pIx_t0, pIx_t1, pEq_i, pNe_i])
local macro_rules | `(tactic| walk_at "evs") => `(tactic| simp [szL, mBody, mBodyD, outP, outD, cVar, cC, cOp, cUn, cTest, cAndT, cOrT, cNotT, cAndV, cOrV, cIf, aNil, aCons, cTup, cLst, cSl, oNone, oSome, cCall, cCallF, cCallD, cMeth, noX', isL_list, isL_encP, tYesD, bnd_ok, bnd_exc, bnd_bad, lft_ok, lft_exc, lft_bad, isOk_ok, isOk_exc, isOk_bad, isD_int, isD_bool, isD_none, isD_str, isD_list, isD_tuple, isD_eP, isD_eT, isD_encP, isD_encT, allD, List.all_cons, List.all_nil, List.map_cons, List.map_nil, List.cons_append, List.nil_append, List.replicate_succ, List.replicate_zero, List.getElem?_cons_zero, List.getElem?_cons_succ, List.set_cons_zero, List.set_cons_succ, wipeD, sSeq, sSet, sAsg, sRet, sIf, sExpr, sNil, sRaise, sSetF, sApp, sAug, sAugL, sPar, sPar3, fLst, bNm, bTup, bCons, bNil, pNot, pIsi, isiT, tyN, pNeg, noX_ok, pLe_i, pLt_i, pGt_i, pGe_i, pAdd_i, pSub_i, pLen_l, pLen_t, pIx_t0, pIx_t1, pEq_i, pNe_i])
local macro_rules | `(tactic| walk_at "evx") => `(tactic| simp [szL, mBody, mBodyD, outP, outD, cVar, cC, cOp, cUn, cTest, cAndT, cOrT, cNotT, cAndV, cOrV, cIf, aNil, aCons, cTup, cLst, cSl, oNone, oSome, cCall, cCallF, cCallD, cMeth, noX', isL_list, isL_encP, tYesD, bnd_ok, bnd_exc, bnd_bad, lft_ok, lft_exc, lft_bad, isOk_ok, isOk_exc, isOk_bad, isD_int, isD_bool, isD_none, isD_str, isD_list, isD_tuple, isD_eP, isD_eT, isD_encP, isD_encT, allD, List.all_cons, List.all_nil, List.map_cons, List.map_nil, List.cons_append, List.nil_append, List.replicate_succ, List.replicate_zero, List.getElem?_cons_zero, List.getElem?_cons_succ, List.set_cons_zero, List.set_cons_succ, wipeD, sSeq, sSet, sAsg, sRet, sIf, sExpr, sNil, sRaise, sSetF, sApp, sAug, sAugL, sPar, sPar3, fLst, bNm, bTup, bCons, bNil, pNot, pIsi, isiT, tyN, pNeg, noX_ok, pLe_i, pLt_i, pGt_i, pGe_i, pAdd_i, pSub_i, pLen_l, pLen_t, pIx_t0, pIx_t1, pEq_i, pNe_i, *])
theorem cTest_ok {d : Type} {e : Env → d → R (PD × d)} {ρ : Env} {s s' : d} {b : Bool} (h : e ρ s = .ok (.bool b, s')) : cTest e ρ s = .ok (b, s') := ev_test h
def up (n : Nat) : List Int := (List.range n).map fun (i : Nat) => (i : Int)
theorem up_len (n : Nat) : (up n).length = n := by simp [up]
theorem iRg1_up {d : Type} {ρ : Env} {s : d} (n : Int) (h : 0 ≤ n ∧ n ≤ 1000000) : iRg1 (aCons (cC (.int n)) aNil) ρ s = .ok ((up n.toNat).map PyData.int, s) := by
  unfold iRg1
  walk_at "ev"
  rw [if_pos (in62_ok (by omega) (by omega)), rngL_01]
  rfl
/-- the first and the last -/
def flD (l : List Int) : PD := match l.head?, l.getLast? with
  | some a, some b => .tuple [.int a, .int b]
  | _, _ => .none
theorem ne_nil_ints (l : List Int) : pNe (.list (l.map PyData.int)) (.list []) = .ok (.bool (decide (l ≠ []))) := by
  have := pNe_ints l []
  rw [show ([] : List Int).map PyData.int = [] from rfl] at this
  rw [this]
  by_cases h : l = [] <;> simp [h]
theorem fl_ev {d : Type} {ρ : Env} {s : d} {i : Nat} (l : List Int) (h : ρ[i]? = some (some (.list (l.map PyData.int)))) :
    cIf (cTest (cOp pNe (cVar i) (cLst aNil))) (cTup (aCons (cOp pIx (cVar i) (cC (.int 0))) (aCons (cOp pIx (cVar i) (cUn pNeg (cC (.int 1)))) aNil))) (cC .none) ρ s = .ok (flD l, s) := by
  have hv : ∀ s : d, cVar i ρ s = .ok (.list (l.map PyData.int), s) := fun s => by unfold cVar; rw [h]
  unfold cIf
  rw [cTest_ok (s' := s) (b := decide (l ≠ [])) (by unfold cOp; rw [hv]; walk_at "ev"; rw [ne_nil_ints]; rfl), bnd_ok]
  cases l with
  | nil => rfl
  | cons a l =>
    rw [if_pos (by simp)]
    have h1 := pIx_head PyData.int (a :: l) a rfl
    have h2 := pIx_last PyData.int (a :: l) ((a :: l).getLast (by simp)) (List.getLast?_eq_some_getLast (by simp))
    have h1' : cOp pIx (cVar i) (cC (.int 0)) ρ s = .ok (.int a, s) := by
      unfold cOp
      rw [hv]
      simp only [bnd_ok, cC]
      rw [h1]
      rfl
    have h2' : cOp pIx (cVar i) (cUn pNeg (cC (.int 1))) ρ s = .ok (.int ((a :: l).getLast (by simp)), s) := by
      unfold cOp
      rw [hv]
      simp only [bnd_ok, cC, cUn, isD_int, if_true]
      rw [show pNeg (.int 1) = .ok (.int (-1)) from rfl]
      simp only [isOk_ok, lft_ok, bnd_ok, isD_list, isD_int, Bool.and_self, if_true]
      rw [h2]
      rfl
    unfold cTup aCons
    rw [h1', bnd_ok, h2']
    walk_at "ev"
    unfold flD
    rw [List.getLast?_eq_some_getLast (show a :: l ≠ [] by simp)]
    rfl
theorem fl_self (l : List Int) : isD (flD l) = true ∧ pNe (flD l) (flD l) = .ok (.bool false) := by
  unfold flD
  split
  · refine ⟨rfl, ?_⟩
    rw [show ∀ a b : Int, PyData.tuple [.int a, .int b] = eP (a, b) from fun _ _ => rfl, pNe_eP]
    simp
  · exact ⟨rfl, rfl⟩
/-- the thresholds that give a point -/
def thr (T : List Th) (q : PD) : List Int := (up 101).filter fun t => PyData.eqv (eP (cnt T t)) q
theorem m_thresholds_for_eq {T : List Th} (g : GoodT T) {q : PD} (hq : SeqAt.shaped q = true) (hd : isD q = true) : m_thresholds_for [encT T, q] = .ok (flD (thr T q)) := by
  refine mBody_of ?_
  unfold b_thresholds_for
  refine ev_seq (ρ' := [some (encT T), some q, none, none]) (s' := ()) ?_ (ev_seq (ρ' := [some (encT T), some q, some (.list ((thr T q).map PyData.int)), none]) (s' := ()) ?_ (ret_of (fl_ev (thr T q) rfl) ?_))
  · walk_at "ev"
    rw [m_check_things_eq g]
    rfl
  · unfold sSet
    rw [cComp_pure (up 101) PyData.int (fun t => PyData.eqv (eP (cnt T t)) q) PyData.int]
    · rfl
    · exact iRg1_up 101 (by decide)
    · rw [up_len]; decide
    · intro t _
      refine ⟨_, rfl, ev_test ?_, fun _ => ⟨rfl, rfl⟩⟩
      walk_at "ev"
      rw [m_counts_eq g.l1000]
      walk_at "ev"
      rw [hd, pEq_ok (shaped_eP _) hq]
      rfl
  · unfold flD
    split <;> rfl
def ysUpTo (P : List Pt) (f : Int) : List Int := (P.filter fun p => decide (p.1 ≤ f)).map (·.2)
def xsFrom (P : List Pt) (t : Int) : List Int := (P.filter fun p => decide (t ≤ p.2)).map (·.1)
def mxD (l : List Int) : R PD := pMax [.list (l.map PyData.int)]
def mnD (l : List Int) : PD := match l with
  | x :: r => .int (minL x r)
  | [] => .none
theorem mn_self (l : List Int) : isD (mnD l) = true ∧ pEq (mnD l) (mnD l) = .ok (.bool true) := by
  cases l with
  | nil => exact ⟨rfl, rfl⟩
  | cons a l =>
    refine ⟨rfl, ?_⟩
    unfold mnD
    rw [pEq_i]
    simp
theorem mxD_cons (x : Int) (r : List Int) : mxD (x :: r) = .ok (.int (maxL x r)) := by
  unfold mxD
  show (match toInts ((x :: r).map PyData.int) with | some (x :: r) => R.ok (PyData.int (maxL x r)) | _ => R.bad) = _
  rw [toInts_map]
theorem m_most_true_eq {T : List Th} (g : GoodT T) {f : Int} (h : 0 ≤ f ∧ f ≤ 12) : ∃ v, mxD (ysUpTo (pts T) f) = .ok (.int v) ∧ m_most_true [encT T, .int f] = .ok (.int v) := by
  obtain ⟨r, hr⟩ : ∃ r, ysUpTo (pts T) f = 0 :: r := by
    unfold ysUpTo pts
    rw [List.filter_cons_of_pos (by simpa using h.1)]
    exact ⟨_, rfl⟩
  have hm := mxD_cons 0 r
  refine ⟨_, by rw [hr]; exact hm, ?_⟩
  rw [← hr] at hm
  unfold mxD ysUpTo at hm
  have hpl := pts_len T
  have hsl := scs_len T
  have hg := g.l2
  refine mBody_of ?_
  unfold b_most_true
  refine ev_seq (ρ' := [some (encT T), some (.int f), none, none]) (s' := ()) ?_ (ev_seq (ρ' := [some (encT T), some (.int f), none, none]) (s' := ()) (ev_if_f (s' := ()) (ev_not (b := true) (ev_test ?_)) rfl) (ret_of ?_ rfl))
  · walk_at "ev"
    rw [m_check_things_eq g]
    rfl
  · walk_at "ev"
    rw [m_is_int_int, decide_eq_true h.1, decide_eq_true h.2]
    rfl
  · unfold cCall aCons
    rw [cComp_pure (pts T) eP (fun p => decide (p.1 ≤ f)) (fun p => .int p.2)]
    · walk_at "ev"
      rw [List.map_map] at hm
      rw [show pMax [.list (((pts T).filter fun p => decide (p.1 ≤ f)).map fun p => .int p.2)] = .ok (.int (maxL 0 r)) from hm]
      rfl
    · unfold iLst
      walk_at "ev"
      rw [m_points_of_eq g.l64]
      rfl
    · omega
    · intro p _
      exact ⟨_, rfl, rfl, fun _ => ⟨rfl, rfl⟩⟩
theorem mn_ev {d : Type} {ρ : Env} {s : d} {i : Nat} (l : List Int) (h : ρ[i]? = some (some (.list (l.map PyData.int)))) :
    cIf (cTest (cOp pNe (cVar i) (cLst aNil))) (cCall pMin (aCons (cVar i) aNil)) (cC .none) ρ s = .ok (mnD l, s) := by
  have hv : ∀ s : d, cVar i ρ s = .ok (.list (l.map PyData.int), s) := fun s => by unfold cVar; rw [h]
  unfold cIf
  rw [cTest_ok (s' := s) (b := decide (l ≠ [])) (by unfold cOp; rw [hv]; walk_at "ev"; rw [ne_nil_ints]; rfl), bnd_ok]
  cases l with
  | nil => rfl
  | cons a l =>
    rw [if_pos (by simp)]
    unfold cCall aCons
    rw [hv]
    walk_at "ev"
    have : pMin [.list (PyData.int a :: l.map PyData.int)] = .ok (.int (minL a l)) := by
      show (match toInts ((a :: l).map PyData.int) with | some (x :: r) => R.ok (PyData.int (minL x r)) | _ => R.bad) = _
      rw [toInts_map]
    rw [this]
    rfl
theorem m_least_false_eq {T : List Th} (g : GoodT T) {f : Int} (h : 0 ≤ f ∧ f ≤ 12) : m_least_false [encT T, .int f] = .ok (mnD (xsFrom (pts T) f)) := by
  have hpl := pts_len T
  have hsl := scs_len T
  have hg := g.l2
  refine mBody_of ?_
  unfold b_least_false
  refine ev_seq (ρ' := [some (encT T), some (.int f), none, none, none]) (s' := ()) ?_ (ev_seq (ρ' := [some (encT T), some (.int f), none, none, none]) (s' := ()) (ev_if_f (s' := ()) (ev_not (b := true) (ev_test ?_)) rfl) (ev_seq (ρ' := [some (encT T), some (.int f), some (.list ((xsFrom (pts T) f).map PyData.int)), none, none]) (s' := ()) ?_ (ret_of (mn_ev _ rfl) ?_)))
  · walk_at "ev"
    rw [m_check_things_eq g]
    rfl
  · walk_at "ev"
    rw [m_is_int_int, decide_eq_true h.1, decide_eq_true h.2]
    rfl
  · unfold sSet
    rw [cComp_pure (pts T) eP (fun p => decide (f ≤ p.2)) (fun p => .int p.1)]
    · unfold xsFrom
      rw [List.map_map]
      rfl
    · unfold iLst
      walk_at "ev"
      rw [m_points_of_eq g.l64]
      rfl
    · omega
    · intro p _
      exact ⟨_, rfl, rfl, fun _ => ⟨rfl, rfl⟩⟩
  · unfold mnD
    split <;> rfl
end DL

/-! M6: pairs, things put together, costs -/
namespace DL
open PySem PySem.Spec PyProof.Rows L2
local macro_rules | `(tactic| walk_at "ev") => `(tactic| simp only [szL, Nat.reduceLeDiff, mBody, mBodyD, outP, outD, cVar, cC, cOp, cUn, cTest, cAndT, cOrT, cNotT, cAndV, cOrV, cIf, aNil, aCons, cTup, cLst, cSl, oNone, oSome, cCall, cCallF, cCallD, cMeth, noX', isL_list, isL_encP, tYesD, bnd_ok, bnd_exc, bnd_bad, lft_ok, lft_exc, lft_bad, isOk_ok, isOk_exc, isOk_bad, isD_int, isD_bool, isD_none, isD_str, isD_list, isD_tuple, isD_eP, isD_eT, isD_encP, isD_encT, allD, List.all_cons, List.all_nil, Bool.and_self, Bool.and_true, Bool.true_and, if_true, if_false, Bool.false_eq_true, ite_true, ite_false, reduceIte, List.length_cons, List.length_nil, List.map_cons, List.map_nil, List.cons_append, List.nil_append, List.replicate_succ, List.replicate_zero, List.getElem?_cons_zero, List.getElem?_cons_succ, List.set_cons_zero, List.set_cons_succ, wipeD, sSeq, sSet, sAsg, sRet, sIf, sExpr, sNil, sRaise, sSetF, sApp, sAug, sAugL, sPar, sPar3, fLst, bNm, bTup, bCons, bNil, pNot, pIsi, isiT, tyN, pNeg, Nat.reduceAdd, decide_true, decide_false, Bool.not_true, Bool.not_false, noX_ok, pLe_i, pLt_i, pGt_i, pGe_i, pAdd_i, pSub_i, pLen_l, pLen_t, pIx_t0, pIx_t1, pEq_i, pNe_i])
local macro_rules | `(tactic| walk_at "evs") => `(tactic| simp [szL, mBody, mBodyD, outP, outD, cVar, cC, cOp, cUn, cTest, cAndT, cOrT, cNotT, cAndV, cOrV, cIf, aNil, aCons, cTup, cLst, cSl, oNone, oSome, cCall, cCallF, cCallD, cMeth, noX', isL_list, isL_encP, tYesD, bnd_ok, bnd_exc, bnd_bad, lft_ok, lft_exc, lft_bad, isOk_ok, isOk_exc, isOk_bad, isD_int, isD_bool, isD_none, isD_str, isD_list, isD_tuple, isD_eP, isD_eT, isD_encP, isD_encT, allD, List.all_cons, List.all_nil, List.map_cons, List.map_nil, List.cons_append, List.nil_append, List.replicate_succ, List.replicate_zero, List.getElem?_cons_zero, List.getElem?_cons_succ, List.set_cons_zero, List.set_cons_succ, wipeD, sSeq, sSet, sAsg, sRet, sIf, sExpr, sNil, sRaise, sSetF, sApp, sAug, sAugL, sPar, sPar3, fLst, bNm, bTup, bCons, bNil, pNot, pIsi, isiT, tyN, pNeg, noX_ok, pLe_i, pLt_i, pGt_i, pGe_i, pAdd_i, pSub_i, pLen_l, pLen_t, pIx_t0, pIx_t1, pEq_i, pNe_i])
local macro_rules | `(tactic| walk_at "evx") => `(tactic| simp [szL, mBody, mBodyD, outP, outD, cVar, cC, cOp, cUn, cTest, cAndT, cOrT, cNotT, cAndV, cOrV, cIf, aNil, aCons, cTup, cLst, cSl, oNone, oSome, cCall, cCallF, cCallD, cMeth, noX', isL_list, isL_encP, tYesD, bnd_ok, bnd_exc, bnd_bad, lft_ok, lft_exc, lft_bad, isOk_ok, isOk_exc, isOk_bad, isD_int, isD_bool, isD_none, isD_str, isD_list, isD_tuple, isD_eP, isD_eT, isD_encP, isD_encT, allD, List.all_cons, List.all_nil, List.map_cons, List.map_nil, List.cons_append, List.nil_append, List.replicate_succ, List.replicate_zero, List.getElem?_cons_zero, List.getElem?_cons_succ, List.set_cons_zero, List.set_cons_succ, wipeD, sSeq, sSet, sAsg, sRet, sIf, sExpr, sNil, sRaise, sSetF, sApp, sAug, sAugL, sPar, sPar3, fLst, bNm, bTup, bCons, bNil, pNot, pIsi, isiT, tyN, pNeg, noX_ok, pLe_i, pLt_i, pGt_i, pGe_i, pAdd_i, pSub_i, pLen_l, pLen_t, pIx_t0, pIx_t1, pEq_i, pNe_i, *])
theorem ev_let {d : Type} {i : Nat} {e : Env → d → R (PD × d)} {g : Env → d → R (Fl × d)} {ρ : Env} {s s1 : d} {v : PD} {r : R (Fl × d)} (h : e ρ s = .ok (v, s1)) (k : g (ρ.set i (some v)) s1 = r) : sSeq (sSet i e) g ρ s = r := ev_seq (ev_set h) k
theorem ev_check {d : Type} {e : Env → d → R (PD × d)} {g : Env → d → R (Fl × d)} {ρ : Env} {s s1 : d} {v : PD} {r : R (Fl × d)} (h : e ρ s = .ok (v, s1)) (k : g ρ s1 = r) : sSeq (sExpr e) g ρ s = r := ev_seq (ev_exp h) k
theorem ev_guard {d : Type} {t : Env → d → R (Bool × d)} {f g : Env → d → R (Fl × d)} {ρ : Env} {s s1 : d} {r : R (Fl × d)} (h : t ρ s = .ok (false, s1)) (k : g ρ s1 = r) : sSeq (sIf t f sNil) g ρ s = r := ev_seq (ev_if_f h rfl) k
theorem ev_asg {d : Type} {b : Bd} {e : Env → d → R (PD × d)} {ρ ρ' : Env} {s s1 : d} {v : PD} (h : e ρ s = .ok (v, s1)) (hb : b v ρ = some ρ') : sAsg b e ρ s = .ok (.nx ρ', s1) := by
  unfold sAsg
  rw [h, bnd_ok, hb]
theorem ev_unp {d : Type} {b : Bd} {e : Env → d → R (PD × d)} {g : Env → d → R (Fl × d)} {ρ ρ' : Env} {s s1 : d} {v : PD} {r : R (Fl × d)} (h : e ρ s = .ok (v, s1)) (hb : b v ρ = some ρ') (k : g ρ' s1 = r) : sSeq (sAsg b e) g ρ s = r := ev_seq (ev_asg h hb) k
theorem ev_for_pass2 {d a : Type} {it : Env → d → R (List PD × d)} {bd : Bd} {body g : Env → d → R (Fl × d)} {ρ : Env} {s s' : d} {r : R (Fl × d)} (xs : List a) (enc : a → PD) (Ok : Env → Prop) (hi : it ρ s = .ok (xs.map enc, s')) (h0 : Ok ρ)
    (h : ∀ x ∈ xs, ∀ ρ, Ok ρ → ∃ ρ1 ρ2, bd (enc x) ρ = some ρ1 ∧ body ρ1 s' = .ok (.nx ρ2, s') ∧ Ok ρ2) (k : ∀ ρ', Ok ρ' → g ρ' s' = r) : sSeq (sFor it bd body) g ρ s = r := by
  obtain ⟨ρ', e, o⟩ := sForGo_pass enc Ok s' xs ρ h0 h
  exact ev_seq (ev_for hi e) (k ρ' o)
theorem eqv_bool (a b : Bool) : PyData.eqv (.bool a) (.bool b) = decide (a = b) := by
  cases a <;> cases b <;> rfl
theorem pEq_b (a b : Bool) : pEq (.bool a) (.bool b) = .ok (.bool (decide (a = b))) := by rw [pEq_ok rfl rfl, eqv_bool]
theorem pNe_b (a b : Bool) : pNe (.bool a) (.bool b) = .ok (.bool (!decide (a = b))) := by rw [pNe_ok rfl rfl, eqv_bool]
theorem eqv_eT (p q : Th) : PyData.eqv (eT p) (eT q) = decide (p = q) := by
  unfold eT
  show (PyData.eqv (.int p.1) (.int q.1) && (PyData.eqv (.bool p.2) (.bool q.2) && true)) = _
  rw [eqv_int, eqv_bool]
  by_cases h : p = q
  · subst h; simp
  · rw [decide_eq_false h]
    by_cases h1 : p.1 = q.1
    · have h2 : p.2 ≠ q.2 := fun h2 => h (Prod.ext h1 h2)
      simp [h2]
    · simp [h1]
theorem eqv_encT (P Q : List Th) : PyData.eqv (encT P) (encT Q) = decide (P = Q) := by
  have h := eqvAll_enc eT (fun x y => by rw [eqv_eT, decide_eq_true_eq]) P Q
  show PyData.eqvAll (P.map eT) (Q.map eT) = _
  by_cases e : P = Q
  · rw [decide_eq_true e]; exact h.mpr e
  · rw [decide_eq_false e]
    cases q : PyData.eqvAll (P.map eT) (Q.map eT) with
    | false => rfl
    | true => exact absurd (h.mp q) e
theorem pNe_encT (p q : List Th) : pNe (encT p) (encT q) = .ok (.bool (!decide (p = q))) := by rw [pNe_ok (shaped_encT p) (shaped_encT q), eqv_encT]
theorem pEq_encT (p q : List Th) : pEq (encT p) (encT q) = .ok (.bool (decide (p = q))) := by rw [pEq_ok (shaped_encT p) (shaped_encT q), eqv_encT]
theorem ne_self {b : Prop} [Decidable b] (h : b) : (R.ok (PyData.bool (!decide b))) = .ok (.bool false) := by rw [decide_eq_true h]; rfl
theorem eq_self {b : Prop} [Decidable b] (h : b) : (R.ok (PyData.bool (decide b))) = .ok (.bool true) := by rw [decide_eq_true h]
theorem pNe_encT_self (p : List Th) : pNe (encT p) (encT p) = .ok (.bool false) := (pNe_encT p p).trans (ne_self rfl)
theorem pNe_encP_self (p : List Pt) : pNe (encP p) (encP p) = .ok (.bool false) := (pNe_encP p p).trans (ne_self rfl)
theorem pNe_eP_self (p : Pt) : pNe (eP p) (eP p) = .ok (.bool false) := (pNe_eP p p).trans (ne_self rfl)
theorem pNe_i_self (p : Int) : pNe (.int p) (.int p) = .ok (.bool false) := (pNe_i p p).trans (ne_self rfl)
theorem pNe_ints_self (p : List Int) : pNe (.list (p.map PyData.int)) (.list (p.map PyData.int)) = .ok (.bool false) := (pNe_ints p p).trans (ne_self rfl)
/-- a triple of ints -/
def e3 (a b c : Int) : PD := .tuple [.int a, .int b, .int c]
theorem shaped_e3 (a b c : Int) : SeqAt.shaped (e3 a b c) = true := by
  refine Sh.ok (n := 1) (Sh.tuple (n := 0) fun x hx => ?_) (by decide)
  simp only [List.mem_cons, List.not_mem_nil, or_false] at hx
  rcases hx with rfl | rfl | rfl <;> exact Sh.int _
theorem pNe_e3_self (a b c : Int) : pNe (e3 a b c) (e3 a b c) = .ok (.bool false) := by
  rw [pNe_ok (shaped_e3 a b c) (shaped_e3 a b c)]
  have : PyData.eqv (e3 a b c) (e3 a b c) = true := by
    show (PyData.eqv (.int a) (.int a) && (PyData.eqv (.int b) (.int b) && (PyData.eqv (.int c) (.int c) && true))) = true
    simp [eqv_int]
  rw [this]; rfl
theorem ev_iLst {d : Type} {e : Env → d → R (PD × d)} {ρ : Env} {s s1 : d} {xs : List PD} (h : e ρ s = .ok (.list xs, s1)) : iLst e ρ s = .ok (xs, s1) := by
  unfold iLst
  rw [h]
  rfl
theorem ev_lst {d : Type} {a : Env → d → R (List PD × d)} {ρ : Env} {s s1 : d} {xs : List PD} (h : a ρ s = .ok (xs, s1)) (hd : allD xs = true := by rfl) (hl : xs.length ≤ sizeLine := by simp [szL]) : cLst a ρ s = .ok (.list xs, s1) := by
  unfold cLst
  rw [h, bnd_ok, hd, decide_eq_true hl]
  rfl
theorem ev_tup {d : Type} {a : Env → d → R (List PD × d)} {ρ : Env} {s s1 : d} {xs : List PD} (h : a ρ s = .ok (xs, s1)) (hd : allD xs = true := by rfl) (hl : xs.length ≤ sizeLine := by simp [szL]) : cTup a ρ s = .ok (.tuple xs, s1) := by
  unfold cTup
  rw [h, bnd_ok, hd, decide_eq_true hl]
  rfl
theorem ev_meth {d : Type} {f : PD → PD → R PD} {a b : Env → d → R (PD × d)} {ρ : Env} {s s1 s2 : d} {x y v : PD} (ha : a ρ s = .ok (x, s1)) (hb : b ρ s1 = .ok (y, s2)) (hf : f x y = .ok v) (hx : isL x = true := by rfl) (hy : isD y = true := by rfl) : cMeth f a b ρ s = .ok (v, s2) := by
  unfold cMeth
  rw [ha, bnd_ok, hx, if_pos rfl, hb, bnd_ok, hy, hf]
  rfl
theorem pCount_ints (l : List Int) (k : Int) : pCount (.list (l.map PyData.int)) (.int k) = .ok (.int (l.count k : Int)) := by
  show (match toInts (l.map PyData.int) with | some bs => _ | none => _) = _
  rw [toInts_map]
/-! ### pairs -/
def rgt (a b : Int) : Bool := decide (b < a)
def req (a b : Int) : Bool := decide (a = b)
def rlt (a b : Int) : Bool := decide (a < b)
def prx (r : Int → Int → Bool) (x : Th) (U : List Th) : Int := ((U.filter fun y => x.2 && !y.2 && r x.1 y.1).length : Int)
def pr (r : Int → Int → Bool) (T U : List Th) : Int := (T.map fun x => prx r x U).sum
theorem prx_cons (r : Int → Int → Bool) (x y : Th) (U : List Th) : prx r x (y :: U) = (if (x.2 && !y.2 && r x.1 y.1) = true then 1 else 0) + prx r x U := by
  unfold prx
  cases h : x.2 && !y.2 && r x.1 y.1 with
  | true => rw [List.filter_cons_of_pos (by exact h), List.length_cons]; simp; omega
  | false => rw [List.filter_cons_of_neg (by simp [h])]; simp
theorem prx_nil (r : Int → Int → Bool) (x : Th) : prx r x [] = 0 := rfl
theorem prx_append (r : Int → Int → Bool) (x : Th) (U V : List Th) : prx r x (U ++ V) = prx r x U + prx r x V := by
  unfold prx
  rw [List.filter_append, List.length_append]; omega
theorem pr_nil (r : Int → Int → Bool) (U : List Th) : pr r [] U = 0 := rfl
theorem pr_cons (r : Int → Int → Bool) (x : Th) (T U : List Th) : pr r (x :: T) U = prx r x U + pr r T U := rfl
theorem pr_append (r : Int → Int → Bool) (T T' U : List Th) : pr r (T ++ T') U = pr r T U + pr r T' U := by
  unfold pr
  rw [List.map_append, List.sum_append]
theorem pr_app2 (r : Int → Int → Bool) (U V : List Th) : ∀ T : List Th, pr r T (U ++ V) = pr r T U + pr r T V
  | [] => rfl
  | x :: T => by
    have := pr_app2 r U V T
    rw [pr_cons, pr_cons, pr_cons, prx_append, this]; omega
def inBody : Env → Unit → R (Fl × Unit) := (sIf (cAndT (cTest (cVar 5)) (cNotT (cTest (cVar 7))))
      (sSeq (sAug 1 (cIf (cTest (cOp pGt (cVar 4) (cVar 6))) (cC (.int 1)) (cC (.int 0))))
      (sSeq (sAug 2 (cIf (cTest (cOp pEq (cVar 4) (cVar 6))) (cC (.int 1)) (cC (.int 0))))
      (sAug 3 (cIf (cTest (cOp pLt (cVar 4) (cVar 6))) (cC (.int 1)) (cC (.int 0))))))
      sNil)
theorem in_loop (T : PD) (x : Th) : ∀ (U : List Th) (w t l : Int) (a b : Option PD), ∃ a' b', sForGo (bTup (bCons (bNm 6) (bCons (bNm 7) bNil))) inBody (U.map eT) [some T, some (.int w), some (.int t), some (.int l), some (.int x.1), some (.bool x.2), a, b] () =
    .ok (.nx [some T, some (.int (w + prx rgt x U)), some (.int (t + prx req x U)), some (.int (l + prx rlt x U)), some (.int x.1), some (.bool x.2), a', b'], ())
  | [], w, t, l, a, b => ⟨a, b, by simp [prx_nil, sForGo]⟩
  | y :: U, w, t, l, a, b => by
    have step : inBody [some T, some (.int w), some (.int t), some (.int l), some (.int x.1), some (.bool x.2), some (.int y.1), some (.bool y.2)] () =
        .ok (.nx [some T, some (.int (w + if (x.2 && !y.2 && rgt x.1 y.1) = true then 1 else 0)), some (.int (t + if (x.2 && !y.2 && req x.1 y.1) = true then 1 else 0)), some (.int (l + if (x.2 && !y.2 && rlt x.1 y.1) = true then 1 else 0)), some (.int x.1), some (.bool x.2), some (.int y.1), some (.bool y.2)], ()) := by
      unfold inBody rgt req rlt
      cases hx : x.2 with
      | false => simp [sIf, cAndT, cTest, cVar, bnd_ok, sNil]
      | true =>
        cases hy : y.2 with
        | true => simp [sIf, cAndT, cNotT, cTest, cVar, bnd_ok, sNil]
        | false =>
          have e1 : ∀ (p : Prop) [Decidable p] (ρ : Env), (cIf (cTest fun _ s => R.ok (.bool (decide p), s)) (cC (.int 1)) (cC (.int 0)) ρ () : R (PD × Unit)) = .ok (.int (if p then 1 else 0), ()) := fun p _ ρ => by
            by_cases h : p <;> simp [cIf, cTest, cC, h, bnd_ok]
          simp only [sIf, cAndT, cNotT, cTest, cVar, bnd_ok, List.getElem?_cons_zero, List.getElem?_cons_succ, Bool.not_false, if_true, sSeq, sAug, cIf, cOp, isD_int, Bool.and_self, pGt_i, pEq_i, pLt_i, isOk_ok, lft_ok, cC]
          by_cases h1 : y.1 < x.1
          · have h2 : ¬ x.1 = y.1 := by omega
            have h3 : ¬ x.1 < y.1 := by omega
            simp [h1, h2, h3, bnd_ok, isD_int, pGt_i, pEq_i, pLt_i, isOk_ok, lft_ok]
          · by_cases h2 : x.1 = y.1
            · have h3 : ¬ x.1 < y.1 := by omega
              simp [h1, h2, h3, bnd_ok, isD_int, pGt_i, pEq_i, pLt_i, isOk_ok, lft_ok]
            · have h3 : x.1 < y.1 := by omega
              simp [h1, h2, h3, bnd_ok, isD_int, pGt_i, pEq_i, pLt_i, isOk_ok, lft_ok]
    obtain ⟨a', b', ih⟩ := in_loop T x U (w + if (x.2 && !y.2 && rgt x.1 y.1) = true then 1 else 0) (t + if (x.2 && !y.2 && req x.1 y.1) = true then 1 else 0) (l + if (x.2 && !y.2 && rlt x.1 y.1) = true then 1 else 0) (some (.int y.1)) (some (.bool y.2))
    refine ⟨a', b', ?_⟩
    show sForGo _ _ (eT y :: U.map eT) _ _ = _
    unfold sForGo
    rw [show bTup (bCons (bNm 6) (bCons (bNm 7) bNil)) (eT y) [some T, some (.int w), some (.int t), some (.int l), some (.int x.1), some (.bool x.2), a, b] = some [some T, some (.int w), some (.int t), some (.int l), some (.int x.1), some (.bool x.2), some (.int y.1), some (.bool y.2)] from rfl]
    dsimp only
    rw [step]
    dsimp only
    rw [ih, prx_cons, prx_cons, prx_cons, Int.add_assoc, Int.add_assoc, Int.add_assoc]
theorem m_outcomes_eq (T : List Th) : m_outcomes [encT T] = .ok (.tuple [.int (pr rgt T T), .int (pr req T T), .int (pr rlt T T)]) := by
  refine mBody_of ?_
  unfold b_outcomes
  refine ev_unp (s1 := ()) rfl (ρ' := [some (encT T), some (.int 0), some (.int 0), some (.int 0), none, none, none, none]) rfl ?_
  obtain ⟨ρ', s', e, i⟩ := sForGo_inv (d := Unit) (bd := bTup (bCons (bNm 4) (bCons (bNm 5) bNil))) (body := sFor (iLst (cVar 0)) (bTup (bCons (bNm 6) (bCons (bNm 7) bNil))) inBody) eT
    (fun p ρ _ => ∃ a b c d, ρ = [some (encT T), some (.int (pr rgt p T)), some (.int (pr req p T)), some (.int (pr rlt p T)), a, b, c, d]) T [] [some (encT T), some (.int 0), some (.int 0), some (.int 0), none, none, none, none] () ⟨_, _, _, _, rfl⟩ fun p x q ρ s _ hi => by
      obtain ⟨a, b, c, d, rfl⟩ := hi
      obtain ⟨a', b', e⟩ := in_loop (encT T) x T (pr rgt p T) (pr req p T) (pr rlt p T) c d
      refine ⟨[some (encT T), some (.int (pr rgt p T)), some (.int (pr req p T)), some (.int (pr rlt p T)), some (.int x.1), some (.bool x.2), c, d], _, (), rfl, ev_for (s' := ()) rfl e, ⟨some (.int x.1), some (.bool x.2), a', b', ?_⟩⟩
      rw [pr_append, pr_append, pr_append, pr_cons, pr_cons, pr_cons, pr_nil, pr_nil, pr_nil, Int.add_zero, Int.add_zero, Int.add_zero]
  obtain ⟨a, b, c, d, rfl⟩ := i
  exact ev_seq (ev_for (s' := ()) rfl e) rfl
theorem m_pair_counts_eq {T : List Th} (g : GoodT T) : m_pair_counts [encT T] = .ok (.tuple [.int (pr rgt T T), .int (pr req T T), .int (pr rlt T T)]) :=
  mBody_of (ev_check (ev_callF (s1 := ()) rfl (m_check_things_eq g)) (ret_of (ev_callF rfl (m_outcomes_eq T)) rfl))
/-! ### put together -/
theorem pAdd_lists (xs ys : List PD) (h : xs.length + ys.length ≤ 1000) : pAdd (.list xs) (.list ys) = .ok (.list (xs ++ ys)) := by
  show (if xs.length + ys.length ≤ sizeLine then _ else _) = _
  rw [if_pos (by rw [szL]; omega)]
theorem pAdd_encT {T U : List Th} (h : T.length + U.length ≤ 1000) : pAdd (encT T) (encT U) = .ok (encT (T ++ U)) := by
  unfold encT
  rw [pAdd_lists _ _ (by rw [List.length_map, List.length_map]; exact h), List.map_append]
theorem m_joined_eq {T U : List Th} (g : GoodT T) (h : GoodT U) (k : T.length + U.length ≤ 12) : m_joined [encT T, encT U] = .ok (encT (T ++ U)) := by
  have g2 : GoodT (T ++ U) := ⟨by rw [List.length_append]; have := g.l1; omega, by rw [List.length_append]; omega, fun x hx => by
    rcases List.mem_append.mp hx with z | z
    · exact g.sc x z
    · exact h.sc x z⟩
  exact mBody_of (ev_check (ev_callF (s1 := ()) rfl (m_check_things_eq g)) (ev_check (ev_callF (s1 := ()) rfl (m_check_things_eq h)) (ev_let (ev_op (s2 := ()) rfl rfl (pAdd_encT (by omega))) (ev_check (ev_callF (s1 := ()) rfl (m_check_things_eq g2)) rfl))))
/-! ### costs -/
def cst (T : List Th) (a b t : Int) : Int := a * fa T t + b * (tr T 0 - tr T t)
def ths (T : List Th) : List Int := 100 :: scs T
theorem m_check_cost_eq {a : Int} (h : 0 ≤ a ∧ a ≤ 1000) : m_check_cost [.int a] = .ok .none := by
  unfold m_check_cost b_check_cost
  walk_at "ev"
  rw [m_is_int_int, decide_eq_true h.1, decide_eq_true h.2]
  rfl
theorem m_check_costs_eq {a b : Int} (h : 0 ≤ a ∧ a ≤ 1000) (k : 0 ≤ b ∧ b ≤ 1000) : m_check_costs [.int a, .int b] = .ok .none := by
  unfold m_check_costs b_check_costs
  walk_at "ev"
  rw [m_check_cost_eq h]
  walk_at "ev"
  rw [m_check_cost_eq k]
  rfl
theorem m_thresholds_of_eq {T : List Th} (g : GoodT T) : m_thresholds_of [encT T] = .ok (.list ((ths T).map PyData.int)) := by
  have h1 := scs_len T
  have h2 := g.l2
  exact mBody_of (ret_of (ev_op (s2 := ()) rfl (ev_callF rfl (m_scores_of_eq g.l64)) (pAdd_lists _ _ (by simp; omega))) rfl)
theorem m_cost_of_eq {T : List Th} (g : GoodT T) {a b : Int} (h : 0 ≤ a ∧ a ≤ 1000) (k : 0 ≤ b ∧ b ≤ 1000) (t : Int) : m_cost_of [encT T, .int t, .int a, .int b] = .ok (.int (cst T a b t)) := by
  refine mBody_of ?_
  unfold b_cost_of
  refine ev_unp (s1 := ()) (ev_callF rfl (m_counts_eq g.l1000 t)) (ρ' := [some (encT T), some (.int t), some (.int a), some (.int b), some (.int (fa T t)), some (.int (tr T t))]) rfl ?_
  refine ret_of (ev_op (s1 := ()) (s2 := ()) (ev_op (s2 := ()) rfl rfl (pMul_i (by omega))) (ev_op (s1 := ()) (s2 := ()) rfl (ev_op (s1 := ()) (s2 := ()) (ev_op (s1 := ()) (s2 := ()) (ev_callF rfl (m_counts_eq g.l1000 0)) rfl (pIx_t1 _ _ _)) rfl (pSub_i _ _)) (pMul_i (by omega))) (pAdd_i _ _)) rfl
theorem pMin_ints (a : Int) (l : List Int) : pMin [.list ((a :: l).map PyData.int)] = .ok (.int (minL a l)) := by
  show (match toInts ((a :: l).map PyData.int) with | some (x :: r) => R.ok (PyData.int (minL x r)) | _ => R.bad) = _
  rw [toInts_map]
theorem m_least_cost_eq {T : List Th} (g : GoodT T) {a b : Int} (h : 0 ≤ a ∧ a ≤ 1000) (k : 0 ≤ b ∧ b ≤ 1000) : m_least_cost [encT T, .int a, .int b] = .ok (.int (minL (cst T a b 100) ((scs T).map (cst T a b)))) := by
  have h1 := scs_len T
  have h2 := g.l2
  refine mBody_of (ev_check (ev_callF (s1 := ()) rfl (m_check_things_eq g)) (ev_check (ev_callF (s1 := ()) rfl (m_check_costs_eq h k)) (ret_of (ev_call (s1 := ()) (ev_a1 (cComp_map (ths T) PyData.int (fun t => .int (cst T a b t)) ?_ (by simp [ths]; omega) fun t _ => ⟨_, rfl, ev_callF rfl (m_cost_of_eq g h k t), rfl⟩)) ?_) rfl)))
  · unfold iLst
    rw [ev_callF (s1 := ()) rfl (m_thresholds_of_eq g)]
    rfl
  · have := pMin_ints (cst T a b 100) ((scs T).map (cst T a b))
    rw [List.map_cons, List.map_map] at this
    exact this
/-- every threshold's alarms are those of one of the program's own -/
theorem cnt_ths {T : List Th} (g : GoodT T) {t : Int} (h : 0 ≤ t) : ∃ u ∈ ths T, cnt T t = cnt T u := by
  have key : ∀ k : Nat, ∀ u : Int, u + (k : Int) = 100 → ∃ v ∈ ths T, cnt T u = cnt T v := by
    intro k
    induction k with
    | zero => intro u e; exact ⟨100, by simp [ths], by rw [show u = 100 by omega]⟩
    | succ k ih =>
      intro u e
      by_cases m : u ∈ scs T
      · exact ⟨u, by simp [ths, m], rfl⟩
      · rw [cnt_same T m]
        exact ih (u + 1) (by omega)
  by_cases h1 : t ≤ 100
  · exact key (100 - t).toNat t (by omega)
  · exact ⟨100, by simp [ths], by rw [cnt_top g (by omega), cnt_top g (by omega)]⟩
theorem cst_cnt {T : List Th} {a b t u : Int} (h : cnt T t = cnt T u) : cst T a b t = cst T a b u := by
  unfold cst
  have e1 : fa T t = fa T u := congrArg Prod.fst h
  have e2 : tr T t = tr T u := congrArg Prod.snd h
  rw [e1, e2]
def lcs (T : List Th) (a b : Int) : Int := minL (cst T a b 100) ((scs T).map (cst T a b))
theorem lcs_le {T : List Th} (g : GoodT T) {a b t : Int} (h : 0 ≤ t) : lcs T a b ≤ cst T a b t := by
  obtain ⟨u, hu, e⟩ := cnt_ths g h
  rw [cst_cnt e]
  have := minL_le ((scs T).map (cst T a b)) (cst T a b 100)
  rcases List.mem_cons.mp hu with z | z
  · rw [z]; exact this.1
  · exact this.2.1 _ (List.mem_map.mpr ⟨u, z, rfl⟩)
theorem lcs_mem {T : List Th} (g : GoodT T) (a b : Int) : ∃ t, 0 ≤ t ∧ t ≤ 100 ∧ lcs T a b = cst T a b t ∧ t ∈ ths T := by
  have := minL_le ((scs T).map (cst T a b)) (cst T a b 100)
  rcases this.2.2 with e | e
  · exact ⟨100, by decide, by decide, e, by simp [ths]⟩
  · obtain ⟨t, ht, e⟩ := List.mem_map.mp e
    obtain ⟨x, hx, q⟩ := mem_scs.mp ht
    have := g.sc x hx
    exact ⟨t, by omega, by omega, e.symm, by simp [ths, ht]⟩
end DL

/-! M7: one thing more -/
namespace DL
open PySem PySem.Spec PyProof.Rows L2
local macro_rules | `(tactic| walk_at "ev") => `(tactic| simp only [szL, Nat.reduceLeDiff, mBody, mBodyD, outP, outD, cVar, cC, cOp, cUn, cTest, cAndT, cOrT, cNotT, cAndV, cOrV, cIf, aNil, aCons, cTup, cLst, cSl, oNone, oSome, cCall, cCallF, cCallD, cMeth, noX', isL_list, isL_encP, tYesD, bnd_ok, bnd_exc, bnd_bad, lft_ok, lft_exc, lft_bad, isOk_ok, isOk_exc, isOk_bad, isD_int, isD_bool, isD_none, isD_str, isD_list, isD_tuple, isD_eP, isD_eT, isD_encP, isD_encT, allD, List.all_cons, List.all_nil, Bool.and_self, Bool.and_true, Bool.true_and, if_true, if_false, Bool.false_eq_true, ite_true, ite_false, reduceIte, List.length_cons, List.length_nil, List.map_cons, List.map_nil, List.cons_append, List.nil_append, List.replicate_succ, List.replicate_zero, List.getElem?_cons_zero, List.getElem?_cons_succ, List.set_cons_zero, List.set_cons_succ, wipeD, sSeq, sSet, sAsg, sRet, sIf, sExpr, sNil, sRaise, sSetF, sApp, sAug, sAugL, sPar, sPar3, fLst, bNm, bTup, bCons, bNil, pNot, pIsi, isiT, tyN, pNeg, Nat.reduceAdd, decide_true, decide_false, Bool.not_true, Bool.not_false, noX_ok, pLe_i, pLt_i, pGt_i, pGe_i, pAdd_i, pSub_i, pLen_l, pLen_t, pIx_t0, pIx_t1, pEq_i, pNe_i])
local macro_rules | `(tactic| walk_at "evs") => `(tactic| simp [szL, mBody, mBodyD, outP, outD, cVar, cC, cOp, cUn, cTest, cAndT, cOrT, cNotT, cAndV, cOrV, cIf, aNil, aCons, cTup, cLst, cSl, oNone, oSome, cCall, cCallF, cCallD, cMeth, noX', isL_list, isL_encP, tYesD, bnd_ok, bnd_exc, bnd_bad, lft_ok, lft_exc, lft_bad, isOk_ok, isOk_exc, isOk_bad, isD_int, isD_bool, isD_none, isD_str, isD_list, isD_tuple, isD_eP, isD_eT, isD_encP, isD_encT, allD, List.all_cons, List.all_nil, List.map_cons, List.map_nil, List.cons_append, List.nil_append, List.replicate_succ, List.replicate_zero, List.getElem?_cons_zero, List.getElem?_cons_succ, List.set_cons_zero, List.set_cons_succ, wipeD, sSeq, sSet, sAsg, sRet, sIf, sExpr, sNil, sRaise, sSetF, sApp, sAug, sAugL, sPar, sPar3, fLst, bNm, bTup, bCons, bNil, pNot, pIsi, isiT, tyN, pNeg, noX_ok, pLe_i, pLt_i, pGt_i, pGe_i, pAdd_i, pSub_i, pLen_l, pLen_t, pIx_t0, pIx_t1, pEq_i, pNe_i])
local macro_rules | `(tactic| walk_at "evx") => `(tactic| simp [szL, mBody, mBodyD, outP, outD, cVar, cC, cOp, cUn, cTest, cAndT, cOrT, cNotT, cAndV, cOrV, cIf, aNil, aCons, cTup, cLst, cSl, oNone, oSome, cCall, cCallF, cCallD, cMeth, noX', isL_list, isL_encP, tYesD, bnd_ok, bnd_exc, bnd_bad, lft_ok, lft_exc, lft_bad, isOk_ok, isOk_exc, isOk_bad, isD_int, isD_bool, isD_none, isD_str, isD_list, isD_tuple, isD_eP, isD_eT, isD_encP, isD_encT, allD, List.all_cons, List.all_nil, List.map_cons, List.map_nil, List.cons_append, List.nil_append, List.replicate_succ, List.replicate_zero, List.getElem?_cons_zero, List.getElem?_cons_succ, List.set_cons_zero, List.set_cons_succ, wipeD, sSeq, sSet, sAsg, sRet, sIf, sExpr, sNil, sRaise, sSetF, sApp, sAug, sAugL, sPar, sPar3, fLst, bNm, bTup, bCons, bNil, pNot, pIsi, isiT, tyN, pNeg, noX_ok, pLe_i, pLt_i, pGt_i, pGe_i, pAdd_i, pSub_i, pLen_l, pLen_t, pIx_t0, pIx_t1, pEq_i, pNe_i, *])
theorem fa_app (T U : List Th) (t : Int) : fa (T ++ U) t = fa T t + fa U t := by
  unfold fa
  rw [List.filter_append, List.length_append]; omega
theorem tr_app (T U : List Th) (t : Int) : tr (T ++ U) t = tr T t + tr U t := by
  unfold tr
  rw [List.filter_append, List.length_append]; omega
theorem fa_one (x : Th) (t : Int) : fa [x] t = if (decide (t ≤ x.1) && !x.2) = true then 1 else 0 := by
  unfold fa
  cases h : decide (t ≤ x.1) && !x.2 with
  | true => rw [List.filter_cons_of_pos (by exact h)]; rfl
  | false => rw [List.filter_cons_of_neg (by simp [h])]; rfl
theorem tr_one (x : Th) (t : Int) : tr [x] t = if (decide (t ≤ x.1) && x.2) = true then 1 else 0 := by
  unfold tr
  cases h : decide (t ≤ x.1) && x.2 with
  | true => rw [List.filter_cons_of_pos (by exact h)]; rfl
  | false => rw [List.filter_cons_of_neg (by simp [h])]; rfl
theorem GoodT.app {T U : List Th} (g : GoodT T) (h : ∀ x ∈ U, 0 ≤ x.1 ∧ x.1 ≤ 99) (k : T.length + U.length ≤ 12) : GoodT (T ++ U) := ⟨by rw [List.length_append]; have := g.l1; omega, by rw [List.length_append]; omega, fun x hx => by
  rcases List.mem_append.mp hx with z | z
  · exact g.sc x z
  · exact h x z⟩
/-- the scores of the others -/
def oth (T : List Th) (m : Bool) : List Int := (T.filter fun y => y.2 != m).map (·.1)
theorem prx_true (r : Int → Int → Bool) (x : Th) (h : x.2 = true) : ∀ T : List Th, prx r x T = (((oth T true).filter fun y => r x.1 y).length : Int)
  | [] => rfl
  | y :: T => by
    have ih := prx_true r x h T
    rw [prx_cons, ih]
    unfold oth
    cases hy : y.2 with
    | true => rw [List.filter_cons_of_neg (by simp [hy])]; simp [h]
    | false =>
      rw [List.filter_cons_of_pos (by simp [hy]), List.map_cons]
      cases hr : r x.1 y.1 with
      | true => rw [List.filter_cons_of_pos (by simp [hr]), List.length_cons]; simp [h]; omega
      | false => rw [List.filter_cons_of_neg (by simp [hr])]; simp [h]
theorem prx_false (r : Int → Int → Bool) (x : Th) (h : x.2 = false) : ∀ T : List Th, prx r x T = 0
  | [] => rfl
  | y :: T => by
    rw [prx_cons, prx_false r x h T]
    simp [h]
theorem pr_one_true (r : Int → Int → Bool) (x : Th) (h : x.2 = true) : ∀ T : List Th, pr r T [x] = 0
  | [] => rfl
  | y :: T => by
    rw [pr_cons, pr_one_true r x h T, prx_cons]
    simp [h, prx_nil]
theorem pr_one_false (r : Int → Int → Bool) (x : Th) (h : x.2 = false) : ∀ T : List Th, pr r T [x] = (((oth T false).filter fun y => r y x.1).length : Int)
  | [] => rfl
  | y :: T => by
    have ih := pr_one_false r x h T
    rw [pr_cons, ih, prx_cons, prx_nil]
    unfold oth
    cases hy : y.2 with
    | false => rw [List.filter_cons_of_neg (by simp [hy])]; simp [h]
    | true =>
      rw [List.filter_cons_of_pos (by simp [hy]), List.map_cons]
      cases hr : r y.1 x.1 with
      | true => rw [List.filter_cons_of_pos (by simp [hr]), List.length_cons]; simp [h]; omega
      | false => rw [List.filter_cons_of_neg (by simp [hr])]; simp [h]
theorem pr_more (r : Int → Int → Bool) (T : List Th) (x : Th) : pr r (T ++ [x]) (T ++ [x]) = pr r T T + (if x.2 = true then (((oth T x.2).filter fun y => r x.1 y).length : Int) else (((oth T x.2).filter fun y => r y x.1).length : Int)) := by
  rw [pr_append, pr_app2, pr_cons, pr_nil, prx_append, prx_cons, prx_nil]
  cases h : x.2 with
  | true => rw [pr_one_true r x h, prx_true r x h]; simp [h]
  | false => rw [pr_one_false r x h, prx_false r x h]; simp [h]
/-- below, same, above: all -/
theorem three (s : Int) : ∀ l : List Int, (l.length : Int) = ((l.filter fun y => decide (y < s)).length : Int) + (l.count s : Int) + ((l.filter fun y => decide (s < y)).length : Int)
  | [] => rfl
  | y :: l => by
    have ih := three s l
    rw [List.count_cons]
    by_cases h1 : y < s
    · rw [List.filter_cons_of_pos (by simpa using h1), List.filter_cons_of_neg (by simp; omega)]
      have : (y == s) = false := by simp; omega
      simp only [List.length_cons, this]; simp; omega
    · by_cases h2 : y = s
      · rw [List.filter_cons_of_neg (by simpa using h1), List.filter_cons_of_neg (by simp; omega)]
        simp only [List.length_cons, h2]; simp; omega
      · rw [List.filter_cons_of_neg (by simpa using h1), List.filter_cons_of_pos (by simp; omega)]
        have : (y == s) = false := by simp [h2]
        simp only [List.length_cons, this]; simp; omega
theorem count_filter (s : Int) : ∀ l : List Int, (l.count s : Int) = ((l.filter fun y => decide (s = y)).length : Int)
  | [] => rfl
  | y :: l => by
    have ih := count_filter s l
    rw [List.count_cons]
    by_cases h : s = y
    · rw [List.filter_cons_of_pos (by simpa using h), List.length_cons]
      have : (y == s) = true := by simp [h]
      simp only [this]; simp; omega
    · rw [List.filter_cons_of_neg (by simpa using h)]
      have : (y == s) = false := by simp; exact fun z => h z.symm
      simp only [this]; simpa using ih
theorem pr_more3 (T : List Th) (x : Th) :
    let above : Int := (((oth T x.2).filter fun y => decide (y < x.1)).length : Int)
    let same : Int := ((oth T x.2).count x.1 : Int)
    let below : Int := ((oth T x.2).length : Int) - above - same
    (x.2 = true → pr rgt (T ++ [x]) (T ++ [x]) = pr rgt T T + above ∧ pr req (T ++ [x]) (T ++ [x]) = pr req T T + same ∧ pr rlt (T ++ [x]) (T ++ [x]) = pr rlt T T + below) ∧
    (x.2 = false → pr rgt (T ++ [x]) (T ++ [x]) = pr rgt T T + below ∧ pr req (T ++ [x]) (T ++ [x]) = pr req T T + same ∧ pr rlt (T ++ [x]) (T ++ [x]) = pr rlt T T + above) := by
  intro above same below
  have e1 := pr_more rgt T x
  have e2 := pr_more req T x
  have e3 := pr_more rlt T x
  have h3 := three x.1 (oth T x.2)
  have hc := count_filter x.1 (oth T x.2)
  have hb : below = (((oth T x.2).filter fun y => decide (x.1 < y)).length : Int) := by
    show ((oth T x.2).length : Int) - (((oth T x.2).filter fun y => decide (y < x.1)).length : Int) - ((oth T x.2).count x.1 : Int) = _
    omega
  constructor
  · intro h
    rw [if_pos h] at e1 e2 e3
    refine ⟨e1, ?_, ?_⟩
    · rw [e2]; show pr req T T + _ = pr req T T + ((oth T x.2).count x.1 : Int); rw [hc]; rfl
    · rw [e3, hb]; rfl
  · intro h
    rw [if_neg (by simp [h])] at e1 e2 e3
    refine ⟨?_, ?_, ?_⟩
    · rw [e1, hb]; rfl
    · rw [e2]
      show pr req T T + _ = pr req T T + ((oth T x.2).count x.1 : Int)
      rw [hc]
      have : (fun y => req y x.1) = fun y => decide (x.1 = y) := by
        funext y
        unfold req
        by_cases z : y = x.1
        · subst z; simp
        · have z' : ¬ x.1 = y := fun q => z q.symm
          simp [z, z']
      rw [this]
    · rw [e3]; rfl
/-! ### unlike scores -/
theorem len_insU_mem {k : Int} : ∀ {l : List Int}, l.Pairwise (· < ·) → ((insU k l).length : Int) = l.length + (if k ∈ l then 0 else 1)
  | [], _ => by simp [insU]
  | x :: r, h => by
    have h' := List.pairwise_cons.mp h
    have ih := len_insU_mem (k := k) h'.2
    unfold insU
    by_cases h1 : k < x
    · have : k ∉ x :: r := fun m => by
        rcases List.mem_cons.mp m with z | z
        · omega
        · have := h'.1 k z; omega
      rw [if_pos h1, if_neg this]; simp
    · rw [if_neg h1]
      by_cases h2 : k = x
      · rw [if_pos h2, if_pos (by simp [h2])]; simp
      · rw [if_neg h2]
        have : (k ∈ x :: r) ↔ k ∈ r := by simp [h2]
        simp only [this, List.length_cons]
        omega
theorem sortU_more (l : List Int) (k : Int) : sortU (l ++ [k]) = insU k (sortU l) := by
  refine sorted_eq lt_sortU (lt_insU lt_sortU) fun j => ?_
  rw [mem_sortU, mem_insU, mem_sortU]
  simp only [List.mem_append, List.mem_cons, List.not_mem_nil, or_false]
  exact Or.comm
theorem scs_more (T : List Th) (x : Th) : ((scs (T ++ [x])).length : Int) = (scs T).length + (if x.1 ∈ T.map (·.1) then 0 else 1) := by
  unfold scs
  rw [List.length_reverse, List.length_reverse, List.map_append, show ([x] : List Th).map (·.1) = [x.1] from rfl, sortU_more, len_insU_mem lt_sortU]
  simp only [mem_sortU]
theorem any_int (p : Int) : ∀ P : List Int, (P.map PyData.int).any (fun z => PyData.eqv z (.int p)) = decide (p ∈ P)
  | [] => rfl
  | q :: P => by
    rw [List.map_cons, List.any_cons, any_int p P, eqv_int]
    by_cases h : q = p
    · subst h; simp
    · have h' : p ≠ q := fun z => h z.symm
      simp [h, h']
theorem pIn_ints (p : Int) (P : List Int) : pIn (.int p) (.list (P.map PyData.int)) = .ok (.bool (decide (p ∈ P))) := by
  show (if SeqAt.shaped (.int p) && SeqAt.shaped (.list (P.map PyData.int)) then _ else _) = _
  rw [shaped_int, shaped_ints]
  rw [any_int]
  rfl
/-! ### costs -/
theorem tr0_more (T : List Th) (x : Th) (h : 0 ≤ x.1) : tr (T ++ [x]) 0 = tr T 0 + (if x.2 = true then 1 else 0) := by
  rw [tr_app, tr_one]
  simp [h]
theorem cst_more (T : List Th) (x : Th) (h : 0 ≤ x.1) (t : Int) : cst T 1 2 t ≤ cst (T ++ [x]) 1 2 t ∧ (x.2 = true → cst (T ++ [x]) 1 2 t ≤ cst T 1 2 t + 2) := by
  unfold cst
  rw [tr0_more T x h, fa_app, tr_app, fa_one, tr_one]
  cases hx : x.2 with
  | true =>
    by_cases ht : t ≤ x.1
    · simp [ht]; omega
    · simp [ht]; omega
  | false =>
    by_cases ht : t ≤ x.1
    · simp [ht]; omega
    · simp [ht]
theorem lcs_more {T : List Th} (g : GoodT T) (x : Th) (h : 0 ≤ x.1) (g2 : GoodT (T ++ [x])) : lcs T 1 2 ≤ lcs (T ++ [x]) 1 2 ∧ (x.2 = true → lcs (T ++ [x]) 1 2 ≤ lcs T 1 2 + 2) := by
  constructor
  · obtain ⟨t, t0, t1, e, _⟩ := lcs_mem g2 1 2
    rw [e]
    have h1 := lcs_le g (a := 1) (b := 2) t0
    have h2 := (cst_more T x h t).1
    omega
  · intro hx
    obtain ⟨t, t0, t1, e, _⟩ := lcs_mem g 1 2
    rw [e]
    have h1 := lcs_le g2 (a := 1) (b := 2) t0
    have h2 := (cst_more T x h t).2 hx
    omega
/-! ### most true -/
theorem pts_mem {T : List Th} (g : GoodT T) {p : Pt} : p ∈ pts T ↔ ∃ t ∈ ths T, p = cnt T t := by
  unfold pts ths
  rw [← cnt_top g (Int.le_refl 100), ← List.map_cons, List.mem_map]
  constructor
  · rintro ⟨t, h, e⟩; exact ⟨t, h, e.symm⟩
  · rintro ⟨t, h, e⟩; exact ⟨t, h, e.symm⟩
theorem cnt_mem {T : List Th} (g : GoodT T) {t : Int} (h : 0 ≤ t) : cnt T t ∈ pts T := by
  obtain ⟨u, hu, e⟩ := cnt_ths g h
  exact (pts_mem g).mpr ⟨u, hu, e⟩
theorem pts_cnt {T : List Th} (g : GoodT T) {p : Pt} (h : p ∈ pts T) : ∃ t, 0 ≤ t ∧ t ≤ 100 ∧ p = cnt T t := by
  obtain ⟨t, ht, e⟩ := (pts_mem g).mp h
  rcases List.mem_cons.mp ht with z | z
  · exact ⟨t, by omega, by omega, e⟩
  · obtain ⟨x, hx, q⟩ := mem_scs.mp z
    have := g.sc x hx
    exact ⟨t, by omega, by omega, e⟩
theorem mxD_mem {l : List Int} {v : Int} (h : mxD l = .ok (.int v)) : v ∈ l ∧ ∀ y ∈ l, y ≤ v := by
  cases l with
  | nil => exact nomatch h
  | cons x r =>
    rw [mxD_cons] at h
    injection h with h
    injection h with h
    have := maxL_ge r x
    rw [h] at this
    refine ⟨?_, fun y hy => ?_⟩
    · rcases this.2.2 with e | e
      · rw [e]; simp
      · exact List.mem_cons_of_mem _ e
    · rcases List.mem_cons.mp hy with e | e
      · rw [e]; exact this.1
      · exact this.2.1 y e
theorem mem_ysUpTo {P : List Pt} {f y : Int} : y ∈ ysUpTo P f ↔ ∃ p ∈ P, p.1 ≤ f ∧ p.2 = y := by
  unfold ysUpTo
  simp only [List.mem_map, List.mem_filter, decide_eq_true_eq, and_assoc]
theorem most_high {T : List Th} (g : GoodT T) (g2 : GoodT (T ++ [(99, true)])) {v w : Int} (h1 : mxD (ysUpTo (pts T) 0) = .ok (.int v)) (h2 : mxD (ysUpTo (pts (T ++ [(99, true)])) 0) = .ok (.int w)) : v ≤ w := by
  obtain ⟨p, hp, hp0, hpv⟩ := mem_ysUpTo.mp (mxD_mem h1).1
  obtain ⟨t, t0, t1, e⟩ := pts_cnt g hp
  have hm := cnt_mem g2 t0
  have e1 : fa (T ++ [(99, true)]) t = fa T t := by
    rw [fa_app, fa_one]; simp
  have e2 : tr T t ≤ tr (T ++ [(99, true)]) t := by
    rw [tr_app]
    have := tr_nn [(99, true)] t
    omega
  have hq : p.1 = fa T t := by rw [e]; rfl
  have hq2 : p.2 = tr T t := by rw [e]; rfl
  have := (mxD_mem h2).2 (tr (T ++ [(99, true)]) t) (mem_ysUpTo.mpr ⟨_, hm, by show fa (T ++ [(99, true)]) t ≤ 0; omega, rfl⟩)
  omega
end DL

/-! H1: the hull, plain -/
namespace DL
open PySem PySem.Spec PyProof.Rows L2
theorem slope_le {u1 u2 v1 v2 w1 w2 : Int} (hu1 : 0 ≤ u1) (hu2 : 0 ≤ u2) (hw1 : 0 ≤ w1) (hw2 : 0 ≤ w2) (hv1 : 0 ≤ v1) (hv2 : 0 ≤ v2) (hv : v1 ≠ 0 ∨ v2 ≠ 0) (h1 : u1 * v2 ≤ u2 * v1) (h2 : v1 * w2 ≤ v2 * w1) : u1 * w2 ≤ u2 * w1 := by
  by_cases h : 0 < v2
  · have e1 := Int.mul_le_mul_of_nonneg_right h1 hw2
    have e2 := Int.mul_le_mul_of_nonneg_left h2 hu2
    have e3 : v2 * (u1 * w2) ≤ v2 * (u2 * w1) := by grind
    exact Int.le_of_mul_le_mul_left e3 h
  · have z : v2 = 0 := by omega
    have hv1' : 0 < v1 := by omega
    rw [z, Int.zero_mul] at h2
    have : w2 = 0 := by
      by_cases q : 0 < w2
      · have := Int.mul_pos hv1' q
        omega
      · omega
    rw [this, Int.mul_zero]
    exact Int.mul_nonneg hu2 hw1
theorem slope_lt {u1 u2 v1 v2 w1 w2 : Int} (hu1 : 0 ≤ u1) (hu2 : 0 ≤ u2) (hw1 : 0 ≤ w1) (hw2 : 0 ≤ w2) (hv1 : 0 ≤ v1) (hv2 : 0 ≤ v2) (hw : w1 ≠ 0 ∨ w2 ≠ 0) (h1 : u1 * v2 < u2 * v1) (h2 : v1 * w2 ≤ v2 * w1) : u1 * w2 < u2 * w1 := by
  have hp : 0 < u2 * v1 := Int.lt_of_le_of_lt (Int.mul_nonneg hu1 hv2) h1
  have hu2' : 0 < u2 := by
    by_cases q : u2 = 0
    · rw [q, Int.zero_mul] at hp; omega
    · omega
  have hv1' : 0 < v1 := by
    by_cases q : v1 = 0
    · rw [q, Int.mul_zero] at hp; omega
    · omega
  by_cases hw2' : w2 = 0
  · rw [hw2', Int.mul_zero]
    exact Int.mul_pos hu2' (by omega)
  · have k : 0 < w2 := by omega
    have hv2' : 0 < v2 := by
      by_cases q : v2 = 0
      · rw [q, Int.zero_mul] at h2
        have := Int.mul_pos hv1' k
        omega
      · omega
    have e1 := Int.mul_lt_mul_of_pos_right h1 k
    have e2 := Int.mul_le_mul_of_nonneg_left h2 hu2
    have e3 : v2 * (u1 * w2) < v2 * (u2 * w1) := by grind
    exact Int.lt_of_mul_lt_mul_left e3 (Int.le_of_lt hv2')
/-- the way turns: > 0 to the left -/
def turn (a b c : Pt) : Int := (b.1 - a.1) * (c.2 - a.2) - (b.2 - a.2) * (c.1 - a.1)
theorem turn_self1 (a b : Pt) : turn a b a = 0 := by unfold turn; grind
theorem turn_self2 (a b : Pt) : turn a b b = 0 := by unfold turn; grind
theorem Up.x {p q : Pt} (h : Up p q) : 0 ≤ q.1 - p.1 := by have := h.1; omega
theorem Up.y {p q : Pt} (h : Up p q) : 0 ≤ q.2 - p.2 := by have := h.2.1; omega
theorem Up.nz {p q : Pt} (h : Up p q) : q.1 - p.1 ≠ 0 ∨ q.2 - p.2 ≠ 0 := by
  by_cases h1 : q.1 - p.1 = 0
  · by_cases h2 : q.2 - p.2 = 0
    · exact absurd (Prod.ext (by omega) (by omega)) h.2.2
    · exact .inr h2
  · exact .inl h1
theorem Up.trans {p q r : Pt} (h : Up p q) (k : Up q r) : Up p r := by
  refine ⟨Int.le_trans h.1 k.1, Int.le_trans h.2.1 k.2.1, fun e => ?_⟩
  subst e
  exact h.2.2 (Prod.ext (Int.le_antisymm h.1 k.1) (Int.le_antisymm h.2.1 k.2.1))
def UpE (p q : Pt) : Prop := p = q ∨ Up p q
theorem UpE.x {p q : Pt} (h : UpE p q) : 0 ≤ q.1 - p.1 := by
  rcases h with h | h
  · subst h; omega
  · exact h.x
theorem UpE.y {p q : Pt} (h : UpE p q) : 0 ≤ q.2 - p.2 := by
  rcases h with h | h
  · subst h; omega
  · exact h.y
/-- beyond b: a turn to the right at b and one at c is one at b to beyond -/
theorem turn_far {a b c p : Pt} (h1 : Up a b) (h2 : Up b c) (h3 : Up c p) (t1 : turn a b c < 0) (t2 : turn b c p < 0) : turn a b p < 0 := by
  have hp := h2.trans h3
  have := slope_lt (u1 := b.1 - a.1) (u2 := b.2 - a.2) (v1 := c.1 - b.1) (v2 := c.2 - b.2) (w1 := p.1 - b.1) (w2 := p.2 - b.2) h1.x h1.y hp.x hp.y h2.x h2.y hp.nz (by unfold turn at t1; grind) (by unfold turn at t2; grind)
  unfold turn; grind
/-- q before b, p beyond: under the line from b to p -/
theorem turn_before {a b p q : Pt} (h1 : Up a b) (h2 : Up b p) (h3 : UpE q b) (t1 : turn a b q ≤ 0) (t2 : turn a b p ≤ 0) : turn b p q ≤ 0 := by
  have := slope_le (u1 := b.1 - q.1) (u2 := b.2 - q.2) (v1 := b.1 - a.1) (v2 := b.2 - a.2) (w1 := p.1 - b.1) (w2 := p.2 - b.2) h3.x h3.y h2.x h2.y h1.x h1.y h1.nz (by unfold turn at t1; grind) (by unfold turn at t2; grind)
  unfold turn; grind
/-- q beyond a: under the line from a to p, if b is -/
theorem turn_over {a b p q : Pt} (h1 : Up a b) (h2 : Up a p) (h3 : Up a q) (t1 : turn a b q ≤ 0) (t2 : 0 ≤ turn a b p) : turn a p q ≤ 0 := by
  have := slope_le (u1 := p.1 - a.1) (u2 := p.2 - a.2) (v1 := b.1 - a.1) (v2 := b.2 - a.2) (w1 := q.1 - a.1) (w2 := q.2 - a.2) h2.x h2.y h3.x h3.y h1.x h1.y h1.nz (by unfold turn at t2; grind) (by unfold turn at t1; grind)
  unfold turn; grind
/-! ### the stack -/
def pop : List Pt → Pt → List Pt
  | b :: a :: r, p => if 0 ≤ turn a b p then pop (a :: r) p else b :: a :: r
  | st, _ => st
def crn (P : List Pt) : List Pt := (P.foldl (fun st p => p :: pop st p) []).reverse
/-- a chain, the last point first: each edge has all of Q on it or under it, each turn is to the right -/
inductive Ch (Q : List Pt) : List Pt → Prop
  | one {b : Pt} (h : ∀ q ∈ Q, UpE b q) (m : b ∈ Q) : Ch Q [b]
  | two {a b : Pt} (c : Ch Q [a]) (m : b ∈ Q) (u : Up a b) (h : ∀ q ∈ Q, turn a b q ≤ 0) : Ch Q [b, a]
  | more {a b c : Pt} {r : List Pt} (k : Ch Q (b :: a :: r)) (m : c ∈ Q) (u : Up b c) (h : ∀ q ∈ Q, turn b c q ≤ 0) (t : turn a b c < 0) : Ch Q (c :: b :: a :: r)
theorem Ch.mem {Q st : List Pt} (h : Ch Q st) : ∀ b ∈ st, b ∈ Q := by
  induction h with
  | one h m => intro b hb; simp at hb; subst hb; exact m
  | two c m u h ih =>
    intro b hb
    rcases List.mem_cons.mp hb with e | e
    · rw [e]; exact m
    · exact ih b e
  | more k m u h t ih =>
    intro b hb
    rcases List.mem_cons.mp hb with e | e
    · rw [e]; exact m
    · exact ih b e
theorem Ch.tail {Q : List Pt} {b a : Pt} {r : List Pt} (h : Ch Q (b :: a :: r)) : Ch Q (a :: r) := by
  cases h with
  | two c m u h => exact c
  | more k m u h t => exact k
theorem Ch.edge {Q : List Pt} {b a : Pt} {r : List Pt} (h : Ch Q (b :: a :: r)) : Up a b ∧ (∀ q ∈ Q, turn a b q ≤ 0) := by
  cases h with
  | two c m u h => exact ⟨u, h⟩
  | more k m u h t => exact ⟨u, h⟩
/-- a chain has room for one point more that lies under its last edge's line -/
theorem Ch.far {Q : List Pt} {p : Pt} (hp : ∀ q ∈ Q, Up q p) : ∀ {st : List Pt}, Ch Q st → (∀ b a r, st = b :: a :: r → turn a b p < 0) → Ch (Q ++ [p]) st := by
  have up' : ∀ b ∈ Q, ∀ q ∈ Q ++ [p], (∀ q ∈ Q, UpE b q) → UpE b q := fun b hb q hq h => by
    rcases List.mem_append.mp hq with z | z
    · exact h q z
    · simp at z; subst z; exact .inr (hp b hb)
  intro st h
  induction h with
  | one h m => exact fun _ => .one (fun q hq => up' _ m q hq h) (by simp [m])
  | @two a b c m u h ih =>
    intro t
    have ht := t b a [] rfl
    refine .two (ih fun _ _ _ e => by cases e) (by simp [m]) u fun q hq => ?_
    rcases List.mem_append.mp hq with z | z
    · exact h q z
    · simp at z; subst z; omega
  | @more a b c r k m u h t ih =>
    intro t'
    have ht := t' c b (a :: r) rfl
    refine .more (ih fun b' a' r' e => ?_) (by simp [m]) u (fun q hq => ?_) t
    · injection e with e1 e2
      injection e2 with e2 e3
      subst e1; subst e2
      exact turn_far k.edge.1 u (hp c m) t ht
    · rcases List.mem_append.mp hq with z | z
      · exact h q z
      · simp at z; subst z; omega
theorem pop_ch {Q : List Pt} {p : Pt} (hp : ∀ q ∈ Q, Up q p) (tot : ∀ a ∈ Q, ∀ q ∈ Q, UpE q a ∨ Up a q) : ∀ (st : List Pt), Ch Q st → (∀ b r, st = b :: r → ∀ q ∈ Q, UpE q b ∨ turn b p q ≤ 0) → Ch (Q ++ [p]) (p :: pop st p)
  | [], h, _ => by cases h
  | [b], h, hq => by
    have hb : b ∈ Q := h.mem b (by simp)
    show Ch (Q ++ [p]) [p, b]
    refine .two (h.far hp fun _ _ _ e => by cases e) (by simp) (hp b hb) fun q hq' => ?_
    rcases List.mem_append.mp hq' with z | z
    · rcases hq b [] rfl q z with e | e
      · have hbq : UpE b q := by cases h with | one h m => exact h q z
        have : q = b := by
          rcases e with e | e
          · exact e
          · rcases hbq with f | f
            · exact f.symm
            · exact absurd rfl (e.trans f).2.2
        rw [this, turn_self1]; omega
      · exact e
    · simp at z; subst z; rw [turn_self2]; omega
  | b :: a :: r, h, hq => by
    have ha : a ∈ Q := h.mem a (by simp)
    have hb : b ∈ Q := h.mem b (by simp)
    unfold pop
    by_cases t : 0 ≤ turn a b p
    · rw [if_pos t]
      refine pop_ch hp tot (a :: r) h.tail fun b' r' e q hq' => ?_
      injection e with e1 _
      subst e1
      rcases tot a ha q hq' with z | z
      · exact .inl z
      · exact .inr (turn_over h.edge.1 (hp a ha) z (h.edge.2 q hq') t)
    · rw [if_neg t]
      have hf := h.far hp fun b' a' r' e => by
        injection e with e1 e2
        injection e2 with e2 e3
        subst e1; subst e2
        omega
      refine .more hf (by simp) (hp b hb) (fun q hq' => ?_) (by omega)
      rcases List.mem_append.mp hq' with z | z
      · rcases hq b (a :: r) rfl q z with e | e
        · exact turn_before h.edge.1 (hp b hb) e (h.edge.2 q z) (by omega)
        · exact e
      · simp at z; subst z; rw [turn_self2]; omega
theorem pop_sub (p : Pt) : ∀ st : List Pt, ∃ r, st = r ++ pop st p
  | [] => ⟨[], rfl⟩
  | [b] => ⟨[], rfl⟩
  | b :: a :: r => by
    unfold pop
    by_cases t : 0 ≤ turn a b p
    · rw [if_pos t]
      obtain ⟨x, e⟩ := pop_sub p (a :: r)
      exact ⟨b :: x, by rw [List.cons_append, ← e]⟩
    · rw [if_neg t]; exact ⟨[], rfl⟩
/-- behind all points of a rising list -/
theorem fold_ch : ∀ (P : List Pt) (Q st : List Pt) (l : Pt), (Q ++ P).Pairwise Up → Ch Q st → Q.getLast? = some l → st.head? = some l → Ch (Q ++ P) (P.foldl (fun st p => p :: pop st p) st) ∧ (P.foldl (fun st p => p :: pop st p) st).head? = (Q ++ P).getLast?
  | [], Q, st, l, _, h, e1, e2 => by rw [List.append_nil]; exact ⟨h, by rw [e1]; exact e2⟩
  | p :: P, Q, st, l, hp, h, e1, e2 => by
    have hpw := List.pairwise_append.mp hp
    have hpq : ∀ q ∈ Q, Up q p := fun q hq => hpw.2.2 q hq p (by simp)
    have tot : ∀ a ∈ Q, ∀ q ∈ Q, UpE q a ∨ Up a q := by
      have aux : ∀ {l : List Pt}, l.Pairwise Up → ∀ a ∈ l, ∀ q ∈ l, UpE q a ∨ Up a q := by
        intro l
        induction l with
        | nil => intro _ a ha; cases ha
        | cons x l ih =>
          intro hl a ha q hq
          have hl' := List.pairwise_cons.mp hl
          rcases List.mem_cons.mp ha with ea | ea
          · rcases List.mem_cons.mp hq with eq | eq
            · exact .inl (.inl (by rw [ea, eq]))
            · exact .inr (by rw [ea]; exact hl'.1 q eq)
          · rcases List.mem_cons.mp hq with eq | eq
            · exact .inl (.inr (by rw [eq]; exact hl'.1 a ea))
            · exact ih hl'.2 a ea q eq
      exact aux hpw.1
    have lastTop : ∀ q ∈ Q, UpE q l := by
      intro q hq
      have hn : Q ≠ [] := fun z => by rw [z] at hq; cases hq
      have hl : l = Q.getLast hn := by
        have := List.getLast?_eq_some_getLast hn
        rw [this] at e1
        injection e1 with e1
        exact e1.symm
      have hq' := hq
      rw [← List.dropLast_concat_getLast hn] at hq'
      rcases List.mem_append.mp hq' with z | z
      · refine .inr ?_
        have hpw2 := hpw.1
        rw [← List.dropLast_concat_getLast hn] at hpw2
        rw [hl]
        exact (List.pairwise_append.mp hpw2).2.2 q z _ (by simp)
      · simp only [List.mem_cons, List.not_mem_nil, or_false] at z
        rw [hl]; exact .inl z
    have h' := pop_ch hpq tot st h fun b r e q hq => by
      rw [e] at e2
      simp at e2
      subst e2
      exact .inl (lastTop q hq)
    have := fold_ch P (Q ++ [p]) (p :: pop st p) p (by rw [List.append_assoc]; exact hp) h' (by simp) rfl
    rw [List.append_assoc] at this
    exact this
/-- what a hull is -/
structure Hull (P C : List Pt) : Prop where
  ch : Ch P C.reverse
  hd : C.head? = P.head?
  lst : C.getLast? = P.getLast?
theorem Ch.bottom {Q : List Pt} : ∀ {st : List Pt}, Ch Q st → ∃ b, st.getLast? = some b ∧ b ∈ Q ∧ ∀ q ∈ Q, UpE b q := by
  intro st h
  induction h with
  | one h m => exact ⟨_, rfl, m, h⟩
  | two c m u h ih => obtain ⟨b, e, m, h⟩ := ih; exact ⟨b, by rw [List.getLast?_cons_cons]; exact e, m, h⟩
  | more k m u h t ih => obtain ⟨b, e, m, h⟩ := ih; exact ⟨b, by rw [List.getLast?_cons_cons]; exact e, m, h⟩
theorem crn_hull {P : List Pt} (hp : P.Pairwise Up) (hn : P ≠ []) : Hull P (crn P) := by
  cases P with
  | nil => exact absurd rfl hn
  | cons p P =>
    have h0 : Ch [p] [p] := .one (fun q hq => by simp at hq; exact .inl hq.symm) (by simp)
    have := fold_ch P [p] [p] p hp h0 rfl rfl
    have e : crn (p :: P) = (P.foldl (fun st p => p :: pop st p) [p]).reverse := rfl
    refine ⟨by rw [e, List.reverse_reverse]; exact this.1, ?_, ?_⟩
    · rw [e, List.head?_reverse]
      obtain ⟨b, e1, m, h⟩ := this.1.bottom
      rw [e1]
      have hb := h p (by simp)
      rcases hb with z | z
      · rw [z]; rfl
      · have hm : UpE p b := by
          rcases List.mem_cons.mp m with q | q
          · exact .inl q.symm
          · exact .inr ((List.pairwise_cons.mp hp).1 b q)
        rcases hm with q | q
        · rw [q]; rfl
        · exact absurd rfl (z.trans q).2.2
    · rw [e, List.getLast?_reverse]
      exact this.2
end DL

/-! H2: corners_of evaluated; hulls read forward -/
namespace DL
open PySem PySem.Spec PyProof.Rows L2
local macro_rules | `(tactic| walk_at "ev") => `(tactic| simp only [szL, Nat.reduceLeDiff, mBody, mBodyD, outP, outD, cVar, cC, cOp, cUn, cTest, cAndT, cOrT, cNotT, cAndV, cOrV, cIf, aNil, aCons, cTup, cLst, cSl, oNone, oSome, cCall, cCallF, cCallD, cMeth, noX', isL_list, isL_encP, tYesD, bnd_ok, bnd_exc, bnd_bad, lft_ok, lft_exc, lft_bad, isOk_ok, isOk_exc, isOk_bad, isD_int, isD_bool, isD_none, isD_str, isD_list, isD_tuple, isD_eP, isD_eT, isD_encP, isD_encT, allD, List.all_cons, List.all_nil, Bool.and_self, Bool.and_true, Bool.true_and, if_true, if_false, Bool.false_eq_true, ite_true, ite_false, reduceIte, List.length_cons, List.length_nil, List.map_cons, List.map_nil, List.cons_append, List.nil_append, List.replicate_succ, List.replicate_zero, List.getElem?_cons_zero, List.getElem?_cons_succ, List.set_cons_zero, List.set_cons_succ, wipeD, sSeq, sSet, sAsg, sRet, sIf, sExpr, sNil, sRaise, sSetF, sApp, sAug, sAugL, sPar, sPar3, fLst, bNm, bTup, bCons, bNil, pNot, pIsi, isiT, tyN, pNeg, Nat.reduceAdd, decide_true, decide_false, Bool.not_true, Bool.not_false, noX_ok, pLe_i, pLt_i, pGt_i, pGe_i, pAdd_i, pSub_i, pLen_l, pLen_t, pIx_t0, pIx_t1, pEq_i, pNe_i])
local macro_rules | `(tactic| walk_at "evs") => `(tactic| simp [szL, mBody, mBodyD, outP, outD, cVar, cC, cOp, cUn, cTest, cAndT, cOrT, cNotT, cAndV, cOrV, cIf, aNil, aCons, cTup, cLst, cSl, oNone, oSome, cCall, cCallF, cCallD, cMeth, noX', isL_list, isL_encP, tYesD, bnd_ok, bnd_exc, bnd_bad, lft_ok, lft_exc, lft_bad, isOk_ok, isOk_exc, isOk_bad, isD_int, isD_bool, isD_none, isD_str, isD_list, isD_tuple, isD_eP, isD_eT, isD_encP, isD_encT, allD, List.all_cons, List.all_nil, List.map_cons, List.map_nil, List.cons_append, List.nil_append, List.replicate_succ, List.replicate_zero, List.getElem?_cons_zero, List.getElem?_cons_succ, List.set_cons_zero, List.set_cons_succ, wipeD, sSeq, sSet, sAsg, sRet, sIf, sExpr, sNil, sRaise, sSetF, sApp, sAug, sAugL, sPar, sPar3, fLst, bNm, bTup, bCons, bNil, pNot, pIsi, isiT, tyN, pNeg, noX_ok, pLe_i, pLt_i, pGt_i, pGe_i, pAdd_i, pSub_i, pLen_l, pLen_t, pIx_t0, pIx_t1, pEq_i, pNe_i])
local macro_rules | `(tactic| walk_at "evx") => `(tactic| simp [szL, mBody, mBodyD, outP, outD, cVar, cC, cOp, cUn, cTest, cAndT, cOrT, cNotT, cAndV, cOrV, cIf, aNil, aCons, cTup, cLst, cSl, oNone, oSome, cCall, cCallF, cCallD, cMeth, noX', isL_list, isL_encP, tYesD, bnd_ok, bnd_exc, bnd_bad, lft_ok, lft_exc, lft_bad, isOk_ok, isOk_exc, isOk_bad, isD_int, isD_bool, isD_none, isD_str, isD_list, isD_tuple, isD_eP, isD_eT, isD_encP, isD_encT, allD, List.all_cons, List.all_nil, List.map_cons, List.map_nil, List.cons_append, List.nil_append, List.replicate_succ, List.replicate_zero, List.getElem?_cons_zero, List.getElem?_cons_succ, List.set_cons_zero, List.set_cons_succ, wipeD, sSeq, sSet, sAsg, sRet, sIf, sExpr, sNil, sRaise, sSetF, sApp, sAug, sAugL, sPar, sPar3, fLst, bNm, bTup, bCons, bNil, pNot, pIsi, isiT, tyN, pNeg, noX_ok, pLe_i, pLt_i, pGt_i, pGe_i, pAdd_i, pSub_i, pLen_l, pLen_t, pIx_t0, pIx_t1, pEq_i, pNe_i, *])
def Sm (p : Pt) : Prop := -1000 ≤ p.1 ∧ p.1 ≤ 1000 ∧ -1000 ≤ p.2 ∧ p.2 ≤ 1000
theorem m_way_turn_eq {a b c : Pt} (ha : Sm a) (hb : Sm b) (hc : Sm c) : m_way_turn [eP a, eP b, eP c] = .ok (.int (turn a b c)) := by
  refine mBody_of ?_
  unfold b_way_turn
  obtain ⟨a1, a2, a3, a4⟩ := ha
  obtain ⟨b1, b2, b3, b4⟩ := hb
  refine ev_seq (s' := ()) (ρ' := [some (eP a), some (eP b), some (eP c), some (.int (b.1 - a.1)), some (.int (b.2 - a.2))]) ?_ (ret_of (ev_op (s1 := ()) (s2 := ()) (ev_op (s1 := ()) rfl (ev_op (s1 := ()) (ev_op (s2 := ()) rfl rfl (eP_1 _)) (ev_op (s2 := ()) rfl rfl (eP_1 _)) (pSub_i _ _)) (pMul_i (by omega))) (ev_op (s1 := ()) rfl (ev_op (s1 := ()) (ev_op (s2 := ()) rfl rfl (eP_0 _)) (ev_op (s2 := ()) rfl rfl (eP_0 _)) (pSub_i _ _)) (pMul_i (by omega))) (pSub_i _ _)) rfl)
  unfold sPar
  rw [ev_aC (s2 := ()) (ev_op (s1 := ()) (ev_op (s2 := ()) rfl rfl (eP_0 _)) (ev_op (s2 := ()) rfl rfl (eP_0 _)) (pSub_i _ _)) (ev_a1 (ev_op (s1 := ()) (ev_op (s2 := ()) rfl rfl (eP_1 _)) (ev_op (s2 := ()) rfl rfl (eP_1 _)) (pSub_i _ _)))]
  rfl
theorem atI_neg {a : Type} (l : List a) (k : Nat) (h1 : 1 ≤ k) (h2 : k ≤ l.length) : L2.atI l (-(k : Int)) = l[l.length - k]? := by
  unfold L2.atI ixN
  rw [if_neg (by omega), if_pos (by omega)]
  show l[(-(k : Int) + (l.length : Int)).toNat]? = _
  congr 1
  omega
theorem pIx_neg {a : Type} (e : a → PD) (l : List a) (k : Nat) (x : a) (h1 : 1 ≤ k) (h2 : k ≤ l.length) (hx : l[l.length - k]? = some x) : pIx (.list (l.map e)) (.int (-(k : Int))) = .ok (e x) := by
  show (match L2.atI (l.map e) (-(k : Int)) with | some d => R.ok d | none => R.bad) = _
  rw [atI_neg _ _ h1 (by rw [List.length_map]; exact h2), List.length_map, List.getElem?_map, hx]
  rfl
theorem cut_dl {a : Type} (xs : List a) : cutD xs none (some (-1)) = xs.dropLast := by
  unfold cutD
  rw [HT.sIx_none]
  have : HT.sIx xs.length xs.length (some (-1)) = xs.length - 1 := by
    unfold HT.sIx
    cases xs with
    | nil => rfl
    | cons x r => simp; omega
  rw [this, List.drop_zero, Nat.sub_zero, List.dropLast_eq_take]
def wTest : Env → Unit → R (Bool × Unit) := cAndT (cTest (cOp pGe (cCall pLen (aCons (cVar 1) aNil)) (cC (.int 2)))) (cTest (cOp pGe (cCallF 3 m_way_turn (aCons (cOp pIx (cVar 1) (cUn pNeg (cC (.int 2)))) (aCons (cOp pIx (cVar 1) (cUn pNeg (cC (.int 1)))) (aCons (cVar 2) aNil)))) (cC (.int 0))))
def wBody : Env → Unit → R (Fl × Unit) := sSetF 1 (fSl 1 oNone (oSome (cUn pNeg (cC (.int 1)))))
theorem len_encP (P : List Pt) : pLen [encP P] = .ok (.int P.length) := by
  show R.ok (PyData.int ((P.map eP).length : Int)) = _
  rw [List.length_map]
theorem wTest_eq (P : Option PD) (st : List Pt) (p : Pt) (hs : ∀ q ∈ st, Sm q) (hp : Sm p) : wTest [P, some (encP st.reverse), some (eP p)] () = .ok ((match st with | b :: a :: _ => decide (0 ≤ turn a b p) | _ => false), ()) := by
  unfold wTest
  have hl : cTest (cOp pGe (cCall pLen (aCons (cVar 1) aNil)) (cC (.int 2))) [P, some (encP st.reverse), some (eP p)] () = .ok (decide (2 ≤ (st.length : Int)), ()) := by
    refine ev_test (ev_op (s1 := ()) (s2 := ()) (ev_call (ev_a1 rfl) (len_encP _)) rfl ?_)
    rw [pGe_i, List.length_reverse]
  match st, hs with
  | [], _ => unfold cAndT; rw [hl]; rfl
  | [b], _ => unfold cAndT; rw [hl]; rfl
  | b :: a :: r, hs =>
    have e : (b :: a :: r).reverse = r.reverse ++ [a, b] := by simp
    refine ev_and_t (s' := ()) (by rw [hl, decide_eq_true (by simp only [List.length_cons]; omega)]) (ev_test ?_)
    have ll : (r.reverse ++ [a, b]).length = r.length + 2 := by simp
    have h1 : pIx (encP (b :: a :: r).reverse) (.int (-1)) = .ok (eP b) := by
      rw [e]
      refine pIx_neg eP _ 1 b (by omega) (by omega) ?_
      rw [ll, List.getElem?_append_right (by simp)]; simp
    have h2 : pIx (encP (b :: a :: r).reverse) (.int (-2)) = .ok (eP a) := by
      rw [e]
      refine pIx_neg eP _ 2 a (by omega) (by omega) ?_
      rw [ll, List.getElem?_append_right (by simp)]; simp
    refine ev_op (s1 := ()) (s2 := ()) (ev_callF (ev_aC (s1 := ()) (s2 := ()) (ev_op (s1 := ()) (s2 := ()) rfl rfl h2) (ev_aC (s1 := ()) (s2 := ()) (ev_op (s1 := ()) (s2 := ()) rfl rfl h1) (ev_a1 rfl))) (m_way_turn_eq (hs a (by simp)) (hs b (by simp)) hp)) rfl (pGe_i _ _)
theorem wBody_eq (P : Option PD) (b : Pt) (st : List Pt) (q : Option PD) : wBody [P, some (encP (b :: st).reverse), q] () = .ok (.nx [P, some (encP st.reverse), q], ()) := by
  unfold wBody sSetF fSl
  show bnd (.ok (cutD ((b :: st).reverse.map eP) none (some (-1)), ())) _ = _
  have e : ((b :: st).reverse.map eP).dropLast = st.reverse.map eP := by
    rw [List.reverse_cons, List.map_append]
    exact List.dropLast_concat
  rw [bnd_ok, cut_dl, e]
  rfl
theorem wLoop_eq (P : Option PD) (p : Pt) (hp : Sm p) : ∀ (st : List Pt) (n : Nat), (∀ q ∈ st, Sm q) → st.length + 2 ≤ n → sWhGo wTest wBody n [P, some (encP st.reverse), some (eP p)] () = .ok (.nx [P, some (encP (pop st p).reverse), some (eP p)], ())
  | st, 0, _, h => by omega
  | [], n + 1, hs, _ => by unfold sWhGo; rw [wTest_eq P _ p hs hp, bnd_ok]; rfl
  | [b], n + 1, hs, _ => by unfold sWhGo; rw [wTest_eq P _ p hs hp, bnd_ok]; rfl
  | b :: a :: r, n + 1, hs, h => by
    unfold sWhGo pop
    rw [wTest_eq P _ p hs hp, bnd_ok]
    by_cases t : 0 ≤ turn a b p
    · rw [if_pos (by simpa using t), if_pos t, wBody_eq]
      exact wLoop_eq P p hp (a :: r) n (fun q hq => hs q (List.mem_cons_of_mem _ hq)) (by simp only [List.length_cons] at h ⊢; omega)
    · rw [if_neg (by simpa using t), if_neg t]
theorem pop_len (p : Pt) (st : List Pt) : (pop st p).length ≤ st.length := by
  obtain ⟨r, e⟩ := pop_sub p st
  have := congrArg List.length e
  rw [List.length_append] at this
  omega
theorem pop_mem {p q : Pt} {st : List Pt} (h : q ∈ pop st p) : q ∈ st := by
  obtain ⟨r, e⟩ := pop_sub p st
  rw [e]
  exact List.mem_append_right _ h
theorem m_corners_of_eq {P : List Pt} (h : ∀ p ∈ P, Sm p) (hl : P.length ≤ 1000) : m_corners_of [encP P] = .ok (encP (crn P)) := by
  refine mBody_of ?_
  unfold b_corners_of
  refine ev_seq (s' := ()) (ρ' := [some (encP P), some (encP []), none]) rfl ?_
  obtain ⟨ρ', s', e, i⟩ := sForGo_inv (d := Unit) (bd := bNm 2) (body := sSeq (sWhile (fuLen 1) wTest wBody) (sApp 1 (cVar 2))) eP
    (fun pre ρ _ => ∃ c, ρ = [some (encP P), some (encP (crn pre)), c] ∧ (crn pre).length ≤ pre.length ∧ ∀ q ∈ crn pre, q ∈ pre) P [] [some (encP P), some (encP []), none] () ⟨none, rfl, Nat.le_refl _, fun q hq => hq⟩ fun pre p q ρ s hpq hi => by
      obtain ⟨c, rfl, hl2, hm⟩ := hi
      rw [List.nil_append] at hpq
      have hpre : pre.length < 1000 := by
        have := congrArg List.length hpq
        simp only [List.length_append, List.length_cons] at this
        omega
      have hpS : Sm p := h p (by rw [hpq]; simp)
      have hS : ∀ q ∈ (crn pre).reverse, Sm q := fun q hq => h q (by rw [hpq]; exact List.mem_append_left _ (hm q (List.mem_reverse.mp hq)))
      have hcr : crn (pre ++ [p]) = (pop (crn pre).reverse p).reverse ++ [p] := by
        unfold crn
        rw [List.foldl_append, List.reverse_reverse]
        simp
      have hw := wLoop_eq (some (encP P)) p hpS (crn pre).reverse ((crn pre).length + 2) hS (by rw [List.length_reverse]; omega)
      rw [List.reverse_reverse] at hw
      have hpl := pop_len p (crn pre).reverse
      rw [List.length_reverse] at hpl
      refine ⟨[some (encP P), some (encP (crn pre)), some (eP p)], [some (encP P), some (encP (crn (pre ++ [p]))), some (eP p)], (), rfl, ?_, ⟨some (eP p), rfl, ?_, ?_⟩⟩
      · refine ev_seq (s' := ()) (ρ' := [some (encP P), some (encP (pop (crn pre).reverse p).reverse), some (eP p)]) ?_ ?_
        · unfold sWhile
          rw [show fuLen 1 [some (encP P), some (encP (crn pre)), some (eP p)] = (crn pre).length + 2 by
            show ((crn pre).map eP).length + 2 = _
            rw [List.length_map]]
          exact hw
        · unfold sApp
          show (if isD (eP p) && decide (((pop (crn pre).reverse p).reverse.map eP).length < sizeLine) then R.ok (Fl.nx ([some (encP P), some (encP (pop (crn pre).reverse p).reverse), some (eP p)].set 1 (some (.list ((pop (crn pre).reverse p).reverse.map eP ++ [eP p])))), ()) else .bad) = _
          rw [decide_eq_true (by rw [List.length_map, List.length_reverse, szL]; omega), hcr]
          unfold encP
          rw [List.map_append]
          rfl
      · rw [hcr]
        simp only [List.length_append, List.length_reverse, List.length_cons, List.length_nil]
        omega
      · intro q hq
        rw [hcr] at hq
        rcases List.mem_append.mp hq with z | z
        · exact List.mem_append_left _ (hm q (List.mem_reverse.mp (pop_mem (List.mem_reverse.mp z))))
        · exact List.mem_append_right _ z
  obtain ⟨c, rfl, _, _⟩ := i
  exact ev_seq (ev_for (s' := ()) rfl e) rfl
/-! ### a hull read forward -/
theorem Ch.drop {Q : List Pt} : ∀ {x st : List Pt}, st ≠ [] → Ch Q (x ++ st) → Ch Q st
  | [], _, _, h => h
  | [c], a :: r, _, h => h.tail
  | c :: b :: x, st, hn, h => Ch.drop (x := b :: x) hn h.tail
theorem Hull.edge {P C : List Pt} (h : Hull P C) {x y : List Pt} {a b : Pt} (e : C = x ++ a :: b :: y) : Up a b ∧ (∀ q ∈ P, turn a b q ≤ 0) := by
  have hc := h.ch
  rw [e] at hc
  simp only [List.reverse_append, List.reverse_cons, List.append_assoc, List.singleton_append] at hc
  exact (Ch.drop (x := y.reverse) (by simp) hc).edge
theorem Hull.turn3 {P C : List Pt} (h : Hull P C) {x y : List Pt} {a b c : Pt} (e : C = x ++ a :: b :: c :: y) : turn a b c < 0 := by
  have hc := h.ch
  rw [e] at hc
  simp only [List.reverse_append, List.reverse_cons, List.append_assoc, List.singleton_append] at hc
  have := Ch.drop (x := y.reverse) (st := c :: b :: a :: x.reverse) (by simp) (by simpa using hc)
  cases this with
  | more k m u h t => exact t
theorem Hull.mem {P C : List Pt} (h : Hull P C) {q : Pt} (hq : q ∈ C) : q ∈ P := h.ch.mem q (List.mem_reverse.mpr hq)
theorem crn_len (P : List Pt) : (crn P).length ≤ P.length := by
  have : ∀ (P st : List Pt), (P.foldl (fun st p => p :: pop st p) st).length ≤ st.length + P.length := by
    intro P
    induction P with
    | nil => intro st; simp
    | cons p P ih =>
      intro st
      have := ih (p :: pop st p)
      have h2 := pop_len p st
      simp only [List.foldl_cons, List.length_cons] at this ⊢
      omega
  unfold crn
  rw [List.length_reverse]
  have := this P []
  simpa using this
end DL

/-! M8: costs over the hull -/
namespace DL
open PySem PySem.Spec PyProof.Rows L2
local macro_rules | `(tactic| walk_at "ev") => `(tactic| simp only [szL, Nat.reduceLeDiff, mBody, mBodyD, outP, outD, cVar, cC, cOp, cUn, cTest, cAndT, cOrT, cNotT, cAndV, cOrV, cIf, aNil, aCons, cTup, cLst, cSl, oNone, oSome, cCall, cCallF, cCallD, cMeth, noX', isL_list, isL_encP, tYesD, bnd_ok, bnd_exc, bnd_bad, lft_ok, lft_exc, lft_bad, isOk_ok, isOk_exc, isOk_bad, isD_int, isD_bool, isD_none, isD_str, isD_list, isD_tuple, isD_eP, isD_eT, isD_encP, isD_encT, allD, List.all_cons, List.all_nil, Bool.and_self, Bool.and_true, Bool.true_and, if_true, if_false, Bool.false_eq_true, ite_true, ite_false, reduceIte, List.length_cons, List.length_nil, List.map_cons, List.map_nil, List.cons_append, List.nil_append, List.replicate_succ, List.replicate_zero, List.getElem?_cons_zero, List.getElem?_cons_succ, List.set_cons_zero, List.set_cons_succ, wipeD, sSeq, sSet, sAsg, sRet, sIf, sExpr, sNil, sRaise, sSetF, sApp, sAug, sAugL, sPar, sPar3, fLst, bNm, bTup, bCons, bNil, pNot, pIsi, isiT, tyN, pNeg, Nat.reduceAdd, decide_true, decide_false, Bool.not_true, Bool.not_false, noX_ok, pLe_i, pLt_i, pGt_i, pGe_i, pAdd_i, pSub_i, pLen_l, pLen_t, pIx_t0, pIx_t1, pEq_i, pNe_i])
local macro_rules | `(tactic| walk_at "evs") => `(tactic| simp [szL, mBody, mBodyD, outP, outD, cVar, cC, cOp, cUn, cTest, cAndT, cOrT, cNotT, cAndV, cOrV, cIf, aNil, aCons, cTup, cLst, cSl, oNone, oSome, cCall, cCallF, cCallD, cMeth, noX', isL_list, isL_encP, tYesD, bnd_ok, bnd_exc, bnd_bad, lft_ok, lft_exc, lft_bad, isOk_ok, isOk_exc, isOk_bad, isD_int, isD_bool, isD_none, isD_str, isD_list, isD_tuple, isD_eP, isD_eT, isD_encP, isD_encT, allD, List.all_cons, List.all_nil, List.map_cons, List.map_nil, List.cons_append, List.nil_append, List.replicate_succ, List.replicate_zero, List.getElem?_cons_zero, List.getElem?_cons_succ, List.set_cons_zero, List.set_cons_succ, wipeD, sSeq, sSet, sAsg, sRet, sIf, sExpr, sNil, sRaise, sSetF, sApp, sAug, sAugL, sPar, sPar3, fLst, bNm, bTup, bCons, bNil, pNot, pIsi, isiT, tyN, pNeg, noX_ok, pLe_i, pLt_i, pGt_i, pGe_i, pAdd_i, pSub_i, pLen_l, pLen_t, pIx_t0, pIx_t1, pEq_i, pNe_i])
local macro_rules | `(tactic| walk_at "evx") => `(tactic| simp [szL, mBody, mBodyD, outP, outD, cVar, cC, cOp, cUn, cTest, cAndT, cOrT, cNotT, cAndV, cOrV, cIf, aNil, aCons, cTup, cLst, cSl, oNone, oSome, cCall, cCallF, cCallD, cMeth, noX', isL_list, isL_encP, tYesD, bnd_ok, bnd_exc, bnd_bad, lft_ok, lft_exc, lft_bad, isOk_ok, isOk_exc, isOk_bad, isD_int, isD_bool, isD_none, isD_str, isD_list, isD_tuple, isD_eP, isD_eT, isD_encP, isD_encT, allD, List.all_cons, List.all_nil, List.map_cons, List.map_nil, List.cons_append, List.nil_append, List.replicate_succ, List.replicate_zero, List.getElem?_cons_zero, List.getElem?_cons_succ, List.set_cons_zero, List.set_cons_succ, wipeD, sSeq, sSet, sAsg, sRet, sIf, sExpr, sNil, sRaise, sSetF, sApp, sAug, sAugL, sPar, sPar3, fLst, bNm, bTup, bCons, bNil, pNot, pIsi, isiT, tyN, pNeg, noX_ok, pLe_i, pLt_i, pGt_i, pGe_i, pAdd_i, pSub_i, pLen_l, pLen_t, pIx_t0, pIx_t1, pEq_i, pNe_i, *])
theorem ev_app {d : Type} {i : Nat} {e : Env → d → R (PD × d)} {ρ : Env} {s s1 : d} {ds : List PD} {x : PD} (h : ρ[i]? = some (some (.list ds))) (he : e ρ s = .ok (x, s1)) (hx : isD x = true) (hl : ds.length < 1000) : sApp i e ρ s = .ok (.nx (ρ.set i (some (.list (ds ++ [x])))), s1) := by
  unfold sApp
  rw [h]
  show bnd (e ρ s) _ = _
  rw [he, bnd_ok, hx, decide_eq_true (by rw [szL]; omega)]
  rfl
theorem cComp_mapI {d a : Type} {it : Env → d → R (List PD × d)} {b : Bd} {own : List Nat} {f : Env → d → R (PD × d)} {ρ : Env} {s : d} (xs : List a) (enc : a → PD) (val : a → Int) (hi : it ρ s = .ok (xs.map enc, s)) (hl : xs.length ≤ 100000)
    (h : ∀ x ∈ xs, ∃ ρ1, b (enc x) (wipeD ρ own) = some ρ1 ∧ f ρ1 s = .ok (.int (val x), s)) : cComp it b own tYesD f ρ s = .ok (.list ((xs.map val).map PyData.int), s) := by
  rw [List.map_map]
  exact cComp_map xs enc (fun x => .int (val x)) hi hl fun x hx => by
    obtain ⟨ρ1, h1, h2⟩ := h x hx
    exact ⟨ρ1, h1, h2, rfl⟩
theorem cComp_pureI {d a : Type} {it : Env → d → R (List PD × d)} {b : Bd} {own : List Nat} {t : Env → d → R (Bool × d)} {f : Env → d → R (PD × d)} {ρ : Env} {s : d} (xs : List a) (enc : a → PD) (keep : a → Bool) (val : a → Int) (hi : it ρ s = .ok (xs.map enc, s)) (hl : xs.length ≤ 100000)
    (h : ∀ x ∈ xs, ∃ ρ1, b (enc x) (wipeD ρ own) = some ρ1 ∧ t ρ1 s = .ok (keep x, s) ∧ (keep x = true → f ρ1 s = .ok (.int (val x), s))) : cComp it b own t f ρ s = .ok (.list (((xs.filter keep).map val).map PyData.int), s) := by
  rw [List.map_map]
  exact cComp_pure xs enc keep (fun x => .int (val x)) hi hl fun x hx => by
    obtain ⟨ρ1, h1, h2, h3⟩ := h x hx
    exact ⟨ρ1, h1, h2, fun z => ⟨h3 z, rfl⟩⟩
theorem cComp_mapP {d a : Type} {it : Env → d → R (List PD × d)} {b : Bd} {own : List Nat} {f : Env → d → R (PD × d)} {ρ : Env} {s : d} (xs : List a) (enc : a → PD) (val : a → Pt) (hi : it ρ s = .ok (xs.map enc, s)) (hl : xs.length ≤ 100000)
    (h : ∀ x ∈ xs, ∃ ρ1, b (enc x) (wipeD ρ own) = some ρ1 ∧ f ρ1 s = .ok (eP (val x), s)) : cComp it b own tYesD f ρ s = .ok (encP (xs.map val), s) := by
  unfold encP
  rw [List.map_map]
  exact cComp_map xs enc (fun x => eP (val x)) hi hl fun x hx => by
    obtain ⟨ρ1, h1, h2⟩ := h x hx
    exact ⟨ρ1, h1, h2, rfl⟩
theorem cComp_pureP {d a : Type} {it : Env → d → R (List PD × d)} {b : Bd} {own : List Nat} {t : Env → d → R (Bool × d)} {f : Env → d → R (PD × d)} {ρ : Env} {s : d} (xs : List a) (enc : a → PD) (keep : a → Bool) (val : a → Pt) (hi : it ρ s = .ok (xs.map enc, s)) (hl : xs.length ≤ 100000)
    (h : ∀ x ∈ xs, ∃ ρ1, b (enc x) (wipeD ρ own) = some ρ1 ∧ t ρ1 s = .ok (keep x, s) ∧ (keep x = true → f ρ1 s = .ok (eP (val x), s))) : cComp it b own t f ρ s = .ok (encP ((xs.filter keep).map val), s) := by
  unfold encP
  rw [List.map_map]
  exact cComp_pure xs enc keep (fun x => eP (val x)) hi hl fun x hx => by
    obtain ⟨ρ1, h1, h2, h3⟩ := h x hx
    exact ⟨ρ1, h1, h2, fun z => ⟨h3 z, rfl⟩⟩
/-! ### least of a list -/
def mnI : List Int → Int
  | x :: r => minL x r
  | [] => 0
theorem mnI_spec {l : List Int} (h : l ≠ []) : mnI l ∈ l ∧ ∀ y ∈ l, mnI l ≤ y := by
  cases l with
  | nil => exact absurd rfl h
  | cons x r =>
    have := minL_le r x
    refine ⟨?_, fun y hy => ?_⟩
    · show minL x r ∈ _
      rcases this.2.2 with e | e
      · rw [e]; simp
      · exact List.mem_cons_of_mem _ e
    · show minL x r ≤ _
      rcases List.mem_cons.mp hy with e | e
      · rw [e]; exact this.1
      · exact this.2.1 y e
theorem mnI_eq {l : List Int} {m : Int} (h1 : m ∈ l) (h2 : ∀ y ∈ l, m ≤ y) : mnI l = m := by
  have := mnI_spec (l := l) (fun z => by rw [z] at h1; cases h1)
  have a := this.2 m h1
  have b := h2 _ this.1
  omega
theorem pMin_l {l : List Int} (h : l ≠ []) : pMin [.list (l.map PyData.int)] = .ok (.int (mnI l)) := by
  cases l with
  | nil => exact absurd rfl h
  | cons x r => exact pMin_ints x r
theorem mem_up {n : Nat} {t : Int} : t ∈ up n ↔ 0 ≤ t ∧ t < n := by
  unfold up
  simp only [List.mem_map, List.mem_range]
  constructor
  · rintro ⟨i, hi, rfl⟩; omega
  · rintro ⟨h1, h2⟩; exact ⟨t.toNat, by omega, by omega⟩
theorem up_get {n : Nat} {t : Int} (h : t ∈ up n) : (up n)[t.toNat]? = some t := by
  have := mem_up.mp h
  unfold up
  rw [List.getElem?_map, List.getElem?_range (by omega)]
  show some ((t.toNat : Nat) : Int) = some t
  rw [Int.toNat_of_nonneg this.1]
theorem pIx_up {n : Nat} {t : Int} (e : Int → PD) (h : t ∈ up n) : pIx (.list ((up n).map e)) (.int t) = .ok (e t) := by
  have h1 := mem_up.mp h
  have := pIx_nat e (up n) t.toNat t (up_get h)
  rw [Int.toNat_of_nonneg h1.1] at this
  exact this
theorem iRg1_n {d : Type} {e : Env → d → R (PD × d)} {ρ : Env} {s s' : d} {n : Nat} (h : e ρ s = .ok (.int n, s')) (hn : n ≤ 1000000) : iRg1 (aCons e aNil) ρ s = .ok ((List.range n).map fun (k : Nat) => PyData.int (k : Int), s') := by
  unfold iRg1
  rw [ev_a1 h, bnd_ok]
  show (if in62 (n : Int) = true then R.ok (rngL 0 1 ((n : Int)).toNat, s') else R.bad) = _
  rw [if_pos (in62_ok (by omega) (by omega)), rngL_01, List.map_map, Int.toNat_natCast]
  rfl
theorem enumD_map {a : Type} (e : a → PD) (z : a) (l : List a) : enumD 0 (l.map e) = (List.range l.length).map fun (k : Nat) => PyData.tuple [.int (k : Int), e (l.getD k z)] := by
  apply List.ext_getElem?
  intro i
  by_cases hi : i < l.length
  · cases h : (enumD 0 (l.map e))[i]? with
    | none =>
      have := List.getElem?_eq_none_iff.mp h
      rw [enumD_len, List.length_map] at this
      omega
    | some d =>
      obtain ⟨x, hx, rfl⟩ := enumD_get 0 _ i d h
      rw [List.getElem?_map, List.getElem?_range hi]
      rw [List.getElem?_map, List.getElem?_eq_getElem hi] at hx
      simp only [Option.map_some, Option.some.injEq] at hx ⊢
      rw [← hx, List.getD_eq_getElem?_getD, List.getElem?_eq_getElem hi]
      simp
  · rw [List.getElem?_eq_none (by rw [enumD_len, List.length_map]; omega), List.getElem?_eq_none (by rw [List.length_map, List.length_range]; omega)]
/-! ### the least cost, the best thresholds -/
theorem lcs_mn {T : List Th} (g : GoodT T) (a b : Int) : mnI ((up 101).map (cst T a b)) = lcs T a b := by
  obtain ⟨t, t0, t1, e, _⟩ := lcs_mem g a b
  refine mnI_eq ?_ fun y hy => ?_
  · rw [e]; exact List.mem_map.mpr ⟨t, mem_up.mpr ⟨t0, by omega⟩, rfl⟩
  · obtain ⟨u, hu, rfl⟩ := List.mem_map.mp hy
    exact lcs_le g (mem_up.mp hu).1
def bths (T : List Th) (a b : Int) : List Int := (up 101).filter fun t => decide (cst T a b t = mnI ((up 101).map (cst T a b)))
theorem up_ne {n : Nat} (h : 0 < n) {b : Type} (f : Int → b) : (up n).map f ≠ [] := fun z => by
  have := congrArg List.length z
  rw [List.length_map, up_len] at this
  simp at this; omega
theorem bths_ev {d : Type} {ρ : Env} {s : d} {T : List Th} {a b : Int} {i j : Nat} (h : ∀ t : Int, cVar i (((wipeD ρ [j]).set j (some (.int t)))) s = .ok (.list (((up 101).map (cst T a b)).map PyData.int), s)) (hj : ∀ t : Int, cVar j (((wipeD ρ [j]).set j (some (.int t)))) s = .ok (.int t, s)) :
    cComp (iRg1 (aCons (cC (.int 101)) aNil)) (bNm j) [j] (cTest (cOp pEq (cOp pIx (cVar i) (cVar j)) (cCall pMin (aCons (cVar i) aNil)))) (cVar j) ρ s = .ok (.list ((bths T a b).map PyData.int), s) := by
  refine cComp_pure (up 101) PyData.int (fun t => decide (cst T a b t = mnI ((up 101).map (cst T a b)))) PyData.int (iRg1_up 101 (by decide)) (by rw [up_len]; decide) fun t ht => ⟨_, rfl, ev_test (ev_op (ev_op (h t) (hj t) ?_) (ev_call (ev_a1 (h t)) (pMin_l (up_ne (by decide) _))) (pEq_i _ _)), fun _ => ⟨hj t, rfl⟩⟩
  rw [List.map_map]
  exact pIx_up _ ht
theorem m_best_thresholds_eq {T : List Th} (g : GoodT T) {a b : Int} (h : 0 ≤ a ∧ a ≤ 1000) (k : 0 ≤ b ∧ b ≤ 1000) : m_best_thresholds [encT T, .int a, .int b] = .ok (.list ((bths T a b).map PyData.int)) := by
  refine mBody_of (ev_check (ev_callF (s1 := ()) rfl (m_check_things_eq g)) (ev_check (ev_callF (s1 := ()) rfl (m_check_costs_eq h k)) (ev_let (s1 := ()) (v := .list (((up 101).map (cst T a b)).map PyData.int)) ?_ (ret_of (bths_ev (fun _ => rfl) (fun _ => rfl)) rfl))))
  rw [List.map_map]
  exact cComp_map (up 101) PyData.int (fun t => .int (cst T a b t)) (iRg1_up 101 (by decide)) (by rw [up_len]; decide) fun t _ => ⟨_, rfl, ev_callF rfl (m_cost_of_eq g h k t), rfl⟩
theorem m_cost_at_eq {T : List Th} (g : GoodT T) {a b t : Int} (h : 0 ≤ a ∧ a ≤ 1000) (k : 0 ≤ b ∧ b ≤ 1000) (ht : 0 ≤ t ∧ t ≤ 100) : m_cost_at [encT T, .int t, .int a, .int b] = .ok (.int (cst T a b t)) :=
  mBody_of (ev_check (ev_callF (s1 := ()) rfl (m_check_things_eq g)) (ev_check (ev_callF (s1 := ()) rfl (m_check_threshold_eq ht)) (ev_check (ev_callF (s1 := ()) rfl (m_check_costs_eq h k)) (ret_of (ev_callF rfl (m_cost_of_eq g h k t)) rfl))))
/-! ### the best points -/
def cpt (a b F : Int) (p : Pt) : Int := a * p.1 + b * (F - p.2)
def bpts (P : List Pt) (a b F : Int) : List Pt := P.filter fun p => decide (cpt a b F p = mnI (P.map (cpt a b F)))
theorem mem_bpts {P : List Pt} {a b F : Int} (hn : P ≠ []) {p : Pt} : p ∈ bpts P a b F ↔ p ∈ P ∧ ∀ q ∈ P, cpt a b F p ≤ cpt a b F q := by
  unfold bpts
  rw [List.mem_filter, decide_eq_true_eq]
  have hs := mnI_spec (l := P.map (cpt a b F)) (by simp [hn])
  constructor
  · rintro ⟨h1, h2⟩
    refine ⟨h1, fun q hq => ?_⟩
    rw [h2]
    exact hs.2 _ (List.mem_map.mpr ⟨q, hq, rfl⟩)
  · rintro ⟨h1, h2⟩
    refine ⟨h1, (mnI_eq (List.mem_map.mpr ⟨p, h1, rfl⟩) fun y hy => ?_).symm⟩
    obtain ⟨q, hq, rfl⟩ := List.mem_map.mp hy
    exact h2 q hq
theorem cpt_ev {d : Type} {ρ : Env} {s : d} {i j k m l : Nat} {a b F : Int} {p : Pt} (ha : 0 ≤ a ∧ a ≤ 1000) (hb : 0 ≤ b ∧ b ≤ 1000) (h1 : cVar i ρ s = .ok (.int a, s)) (h2 : cVar j ρ s = .ok (.int b, s)) (h3 : cVar k ρ s = .ok (.int F, s)) (h4 : cVar l ρ s = .ok (.int p.1, s)) (h5 : cVar m ρ s = .ok (.int p.2, s)) :
    cOp pAdd (cOp pMul (cVar i) (cVar l)) (cOp pMul (cVar j) (cOp pSub (cVar k) (cVar m))) ρ s = .ok (.int (cpt a b F p), s) :=
  ev_op (ev_op h1 h4 (pMul_i (by omega))) (ev_op h2 (ev_op h3 h5 (pSub_i _ _)) (pMul_i (by omega))) (pAdd_i _ _)
theorem zip_map_self {a b : Type} (f : a → b) : ∀ l : List a, l.zip (l.map f) = l.map fun x => (x, f x)
  | [] => rfl
  | x :: l => by simp [zip_map_self f l]
theorem m_best_points_eq {T : List Th} (g : GoodT T) {a b : Int} (h : 0 ≤ a ∧ a ≤ 1000) (k : 0 ≤ b ∧ b ≤ 1000) : m_best_points [encT T, .int a, .int b] = .ok (encP (bpts (pts T) a b (tr T 0))) := by
  have hpl := pts_len T
  have hsl := scs_len T
  have hg := g.l2
  refine mBody_of (ev_check (ev_callF (s1 := ()) rfl (m_check_things_eq g)) (ev_check (ev_callF (s1 := ()) rfl (m_check_costs_eq h k)) (ev_let (s1 := ()) (v := .int (tr T 0)) (ev_op (s1 := ()) (ev_callF rfl (m_counts_eq g.l1000 0)) rfl (pIx_t1 _ _ _)) (ev_let (s1 := ()) (ev_callF rfl (m_points_of_eq g.l64)) (ev_let (s1 := ()) (v := .list (((pts T).map (cpt a b (tr T 0))).map PyData.int)) ?_ (ret_of ?_ rfl))))))
  · rw [List.map_map]
    exact cComp_map (pts T) eP (fun p => .int (cpt a b (tr T 0) p)) rfl (by omega) fun p _ => ⟨_, rfl, cpt_ev h k rfl rfl rfl rfl rfl, rfl⟩
  · have := cComp_pure (d := Unit) (it := iZp (aCons (cVar 4) (aCons (cVar 5) aNil))) (b := bTup (bCons (bNm 8) (bCons (bNm 9) bNil))) (own := [8, 9]) (t := cTest (cOp pEq (cVar 9) (cCall pMin (aCons (cVar 5) aNil)))) (f := cVar 8) (ρ := [some (encT T), some (.int a), some (.int b), some (.int (tr T 0)), some (encP (pts T)), some (.list (((pts T).map (cpt a b (tr T 0))).map PyData.int)), none, none, none, none]) (s := ()) (pts T) (fun p => .tuple [eP p, .int (cpt a b (tr T 0) p)]) (fun p => decide (cpt a b (tr T 0) p = mnI ((pts T).map (cpt a b (tr T 0))))) eP ?_ (by omega) fun p _ => ⟨_, rfl, ev_test (ev_op rfl (ev_call (ev_a1 rfl) (pMin_l (by simp [pts]))) (pEq_i _ _)), fun _ => ⟨rfl, rfl⟩⟩
    · exact this
    · show R.ok (zipD ((pts T).map eP) (((pts T).map (cpt a b (tr T 0))).map PyData.int), ()) = _
      rw [zipD_map, zip_map_self, List.map_map]
      rfl
/-! ### the corners' ranges -/
def dif (p q : Pt) : Pt := (q.1 - p.1, q.2 - p.2)
def gt (C : List Pt) (k : Nat) : Pt := C.getD k (0, 0)
def bef (C : List Pt) (k : Nat) : Option Pt := if 0 < k then some (dif (gt C (k - 1)) (gt C k)) else none
def aft (C : List Pt) (k : Nat) : Option Pt := if k + 1 < C.length then some (dif (gt C k) (gt C (k + 1))) else none
def encO : Option Pt → PD
  | some p => eP p
  | none => .none
def rngT (C : List Pt) (k : Nat) : PD := .tuple [eP (gt C k), encO (bef C k), encO (aft C k)]
theorem gt_get {C : List Pt} {k : Nat} (h : k < C.length) : C[k]? = some (gt C k) := by
  unfold gt
  rw [List.getD_eq_getElem?_getD, List.getElem?_eq_getElem h]
  rfl
theorem pIx_gt {C : List Pt} {k : Nat} (h : k < C.length) : pIx (encP C) (.int (k : Int)) = .ok (eP (gt C k)) := pIx_nat eP C k _ (gt_get h)
theorem m_hull_eq {T : List Th} (g : GoodT T) : m_hull [encT T] = .ok (encP (crn (pts T))) := by
  have hpl := pts_len T
  have hsl := scs_len T
  have hg := g.l2
  exact mBody_of (ev_check (ev_callF (s1 := ()) rfl (m_check_things_eq g)) (ret_of (ev_callF (ev_a1 (ev_callF rfl (m_points_of_eq g.l64))) (m_corners_of_eq (fun p hp => by have := pts_rng g p hp; unfold Sm; omega) (by omega))) rfl))
def slp (C : List Pt) : List Pt := (C.zip (C.drop 1)).map fun p => dif p.1 p.2
theorem slp_len (C : List Pt) : (slp C).length = C.length - 1 := by
  unfold slp
  rw [List.length_map, List.length_zip, List.length_drop]; omega
theorem slp_get {C : List Pt} {k : Nat} (h : k + 1 < C.length) : (slp C)[k]? = some (dif (gt C k) (gt C (k + 1))) := by
  unfold slp
  rw [List.getElem?_map, List.getElem?_zip_eq_some (z := (gt C k, gt C (k + 1))) |>.mpr ⟨gt_get (by omega), by rw [List.getElem?_drop, Nat.add_comm]; exact gt_get h⟩]
  rfl
theorem slp_ix {C : List Pt} {k : Nat} (h : k + 1 < C.length) : pIx (encP (slp C)) (.int (k : Int)) = .ok (eP (dif (gt C k) (gt C (k + 1)))) := pIx_nat eP (slp C) k _ (slp_get h)
theorem m_cost_ranges_eq {T : List Th} (g : GoodT T) : m_cost_ranges [encT T] = .ok (.list ((List.range (crn (pts T)).length).map (rngT (crn (pts T))))) := by
  have hpl := pts_len T
  have hsl := scs_len T
  have hg := g.l2
  have hcl := crn_len (pts T)
  generalize hC : crn (pts T) = C at hcl
  refine mBody_of (ev_check (ev_callF (s1 := ()) rfl (m_check_things_eq g)) (ev_let (s1 := ()) (v := encP C) ?_ (ev_let (s1 := ()) (v := encP (slp C)) ?_ (ev_seq (s' := ()) (ρ' := [some (encT T), some (encP C), some (encP (slp C)), some (.list []), none, none, none, none]) rfl ?_))))
  · rw [← hC]
    exact ev_callF (ev_a1 (ev_callF rfl (m_points_of_eq g.l64))) (m_corners_of_eq (fun p hp => by have := pts_rng g p hp; unfold Sm; omega) (by omega))
  · unfold encP slp
    rw [List.map_map]
    refine cComp_map (C.zip (C.drop 1)) (fun p => .tuple [eP p.1, eP p.2]) (fun p => eP (dif p.1 p.2)) ?_ (by rw [List.length_zip]; omega) fun p _ => ⟨_, rfl, ev_tup (ev_aC (s2 := ()) (ev_op (s1 := ()) (ev_op (s2 := ()) rfl rfl (eP_0 _)) (ev_op (s2 := ()) rfl rfl (eP_0 _)) (pSub_i _ _)) (ev_a1 (ev_op (s1 := ()) (ev_op (s2 := ()) rfl rfl (eP_1 _)) (ev_op (s2 := ()) rfl rfl (eP_1 _)) (pSub_i _ _)))), rfl⟩
    rw [← zipD_map, List.map_drop, ← cut_1]
    rfl
  · obtain ⟨ρ', s', e, i⟩ := sForGo_inv (d := Unit) (bd := bTup (bCons (bNm 4) (bCons (bNm 5) bNil))) (body := sApp 3 (cTup (aCons (cVar 5) (aCons (cIf (cTest (cOp pGt (cVar 4) (cC (.int 0)))) (cOp pIx (cVar 2) (cOp pSub (cVar 4) (cC (.int 1)))) (cC .none)) (aCons (cIf (cTest (cOp pLt (cVar 4) (cCall pLen (aCons (cVar 2) aNil)))) (cOp pIx (cVar 2) (cVar 4)) (cC .none)) aNil)))))
      (fun (k : Nat) => PyData.tuple [.int (k : Int), eP (gt C k)]) (fun pre ρ _ => ∃ a b, ρ = [some (encT T), some (encP C), some (encP (slp C)), some (.list (pre.map (rngT C))), a, b, none, none]) (List.range C.length) [] [some (encT T), some (encP C), some (encP (slp C)), some (.list []), none, none, none, none] () ⟨none, none, rfl⟩ fun pre k q ρ s hpq hi => by
        obtain ⟨a, b, rfl⟩ := hi
        rw [List.nil_append] at hpq
        have hk : k < C.length := by
          have : k ∈ List.range C.length := by rw [hpq]; simp
          simpa using this
        have hpre : pre.length < 1000 := by
          have := congrArg List.length hpq
          rw [List.length_range, List.length_append] at this
          omega
        refine ⟨_, [some (encT T), some (encP C), some (encP (slp C)), some (.list ((pre ++ [k]).map (rngT C))), some (.int (k : Int)), some (eP (gt C k)), none, none], (), rfl, ?_, ⟨_, _, rfl⟩⟩
        have hb : cIf (cTest (cOp pGt (cVar 4) (cC (.int 0)))) (cOp pIx (cVar 2) (cOp pSub (cVar 4) (cC (.int 1)))) (cC .none) [some (encT T), some (encP C), some (encP (slp C)), some (.list (pre.map (rngT C))), some (.int (k : Int)), some (eP (gt C k)), none, none] () = .ok (encO (bef C k), ()) := by
          unfold cIf bef
          rw [ev_test (b := decide (0 < k)) (s' := ()) (ev_op (s1 := ()) rfl rfl (by rw [pGt_i]; congr 2; simp)), bnd_ok]
          by_cases h : 0 < k
          · rw [if_pos (by simpa using h), if_pos h]
            refine ev_op (s1 := ()) rfl (ev_op (s1 := ()) rfl rfl (pSub_i _ _)) ?_
            rw [show (k : Int) - 1 = ((k - 1 : Nat) : Int) by omega, slp_ix (by omega), show k - 1 + 1 = k by omega]
            rfl
          · rw [if_neg (by simpa using h), if_neg h]; rfl
        have hf : cIf (cTest (cOp pLt (cVar 4) (cCall pLen (aCons (cVar 2) aNil)))) (cOp pIx (cVar 2) (cVar 4)) (cC .none) [some (encT T), some (encP C), some (encP (slp C)), some (.list (pre.map (rngT C))), some (.int (k : Int)), some (eP (gt C k)), none, none] () = .ok (encO (aft C k), ()) := by
          unfold cIf aft
          rw [ev_test (b := decide (k + 1 < C.length)) (s' := ()) (ev_op (s1 := ()) rfl (ev_call (ev_a1 rfl) (len_encP _)) (by rw [pLt_i, slp_len]; congr 2; simp; omega)), bnd_ok]
          by_cases h : k + 1 < C.length
          · rw [if_pos (by simpa using h), if_pos h]
            exact ev_op (s1 := ()) rfl rfl (slp_ix h)
          · rw [if_neg (by simpa using h), if_neg h]; rfl
        have hdO : ∀ o, isD (encO o) = true := fun o => by cases o <;> rfl
        have ht := ev_tup (ev_aC (s1 := ()) (s2 := ()) (a := cVar 5) (x := eP (gt C k)) rfl (ev_aC (s1 := ()) (s2 := ()) hb (ev_a1 (s1 := ()) hf))) (by simp [allD, isD_eP, hdO])
        refine (ev_app rfl ht rfl (by rw [List.length_map]; omega)).trans ?_
        rw [List.map_append]
        rfl
    obtain ⟨a, b, rfl⟩ := i
    refine ev_seq (ev_for (s' := ()) ?_ e) rfl
    show R.ok (enumD 0 (C.map eP), ()) = _
    rw [enumD_map eP (0, 0)]
    rfl
/-! ### a corner is best exactly if its steps say so -/
def low (a b : Int) (o : Option Pt) : Bool := match o with
  | some d => decide (a * d.1 ≤ b * d.2)
  | none => true
def high (a b : Int) (o : Option Pt) : Bool := match o with
  | some d => decide (b * d.2 ≤ a * d.1)
  | none => true
theorem split2 {C : List Pt} {k : Nat} (h : k + 1 < C.length) : ∃ x y, C = x ++ gt C k :: gt C (k + 1) :: y := by
  refine ⟨C.take k, C.drop (k + 2), ?_⟩
  have h1 : C.drop k = gt C k :: C.drop (k + 1) := by
    rw [List.drop_eq_getElem_cons (by omega)]
    congr 1
    have := gt_get (C := C) (k := k) (by omega)
    rw [List.getElem?_eq_getElem (by omega)] at this
    exact Option.some.inj this
  have h2 : C.drop (k + 1) = gt C (k + 1) :: C.drop (k + 2) := by
    rw [List.drop_eq_getElem_cons (by omega)]
    congr 1
    have := gt_get (C := C) (k := k + 1) (by omega)
    rw [List.getElem?_eq_getElem (by omega)] at this
    exact Option.some.inj this
  rw [← h2, ← h1, List.take_append_drop]
theorem pw_tot {l : List Pt} (h : l.Pairwise Up) : ∀ a ∈ l, ∀ q ∈ l, UpE q a ∨ Up a q := by
  induction l with
  | nil => intro a ha; cases ha
  | cons x l ih =>
    intro a ha q hq
    have hl' := List.pairwise_cons.mp h
    rcases List.mem_cons.mp ha with ea | ea
    · rcases List.mem_cons.mp hq with eq | eq
      · exact .inl (.inl (by rw [ea, eq]))
      · exact .inr (by rw [ea]; exact hl'.1 q eq)
    · rcases List.mem_cons.mp hq with eq | eq
      · exact .inl (.inr (by rw [eq]; exact hl'.1 a ea))
      · exact ih hl'.2 a ea q eq
theorem pw_first {l : List Pt} (h : l.Pairwise Up) {p : Pt} (e : l.head? = some p) : ∀ q ∈ l, UpE p q := by
  cases l with
  | nil => cases e
  | cons x l =>
    injection e with e
    subst e
    intro q hq
    rcases List.mem_cons.mp hq with z | z
    · exact .inl z.symm
    · exact .inr ((List.pairwise_cons.mp h).1 q z)
theorem pw_last {l : List Pt} (h : l.Pairwise Up) {p : Pt} (e : l.getLast? = some p) : ∀ q ∈ l, UpE q p := by
  intro q hq
  have hn : l ≠ [] := fun z => by rw [z] at hq; cases hq
  have hl : p = l.getLast hn := by
    rw [List.getLast?_eq_some_getLast hn] at e
    injection e with e
    exact e.symm
  rw [← List.dropLast_concat_getLast hn] at hq h
  rcases List.mem_append.mp hq with z | z
  · refine .inr ?_
    rw [hl]
    exact (List.pairwise_append.mp h).2.2 q z _ (by simp)
  · simp only [List.mem_cons, List.not_mem_nil, or_false] at z
    rw [hl]; exact .inl z
theorem UpE.anti {p q : Pt} (h : UpE p q) (k : Up q p) : False := by
  rcases h with e | e
  · exact k.2.2 e.symm
  · exact (e.trans k).2.2 rfl
theorem gt_mem {C : List Pt} {k : Nat} (h : k < C.length) : gt C k ∈ C := by
  have := gt_get h
  exact List.mem_of_getElem? this
theorem corner_best {P C : List Pt} (hp : P.Pairwise Up) (H : Hull P C) {a b F : Int} (ha : 0 ≤ a) (hb : 0 ≤ b) {k : Nat} (hk : k < C.length) : (low a b (bef C k) && high a b (aft C k)) = true ↔ gt C k ∈ P ∧ ∀ q ∈ P, cpt a b F (gt C k) ≤ cpt a b F q := by
  have hm : gt C k ∈ P := H.mem (gt_mem hk)
  constructor
  · intro h
    rw [Bool.and_eq_true] at h
    refine ⟨hm, fun q hq => ?_⟩
    rcases pw_tot hp (gt C k) hm q hq with e | e
    · rcases e with e | e
      · rw [e]; exact Int.le_refl _
      · -- before it
        have hk0 : 0 < k := by
          by_cases z : 0 < k
          · exact z
          · have z' : k = 0 := by omega
            subst z'
            have h1 : P.head? = some (gt C 0) := by
              rw [← H.hd, List.head?_eq_getElem?]
              exact gt_get hk
            exact ((pw_first hp h1 q hq).anti e).elim
        have hl := h.1
        unfold low bef at hl
        rw [if_pos hk0] at hl
        simp only [decide_eq_true_eq] at hl
        obtain ⟨x, y, es⟩ := split2 (C := C) (k := k - 1) (by omega)
        rw [show k - 1 + 1 = k by omega] at es
        obtain ⟨u, hu⟩ := H.edge es
        have ht := hu q hq
        unfold dif at hl
        have := slope_le (u1 := a) (u2 := b) (v1 := (gt C k).2 - (gt C (k - 1)).2) (v2 := (gt C k).1 - (gt C (k - 1)).1) (w1 := (gt C k).2 - q.2) (w2 := (gt C k).1 - q.1) ha hb e.y e.x u.y u.x (by rcases u.nz with z | z; exact .inr z; exact .inl z) hl (by unfold turn at ht; grind)
        unfold cpt; grind
    · -- behind it
      have hk1 : k + 1 < C.length := by
        by_cases z : k + 1 < C.length
        · exact z
        · have z' : k = C.length - 1 := by omega
          have h1 : P.getLast? = some (gt C k) := by
            rw [← H.lst, List.getLast?_eq_getElem?, ← z']
            exact gt_get hk
          exact ((pw_last hp h1 q hq).anti e).elim
      have hl := h.2
      unfold high aft at hl
      rw [if_pos hk1] at hl
      simp only [decide_eq_true_eq] at hl
      obtain ⟨x, y, es⟩ := split2 hk1
      obtain ⟨u, hu⟩ := H.edge es
      have ht := hu q hq
      unfold dif at hl
      have := slope_le (u1 := b) (u2 := a) (v1 := (gt C (k + 1)).1 - (gt C k).1) (v2 := (gt C (k + 1)).2 - (gt C k).2) (w1 := q.1 - (gt C k).1) (w2 := q.2 - (gt C k).2) hb ha e.x e.y u.x u.y u.nz hl (by unfold turn at ht; grind)
      unfold cpt; grind
  · rintro ⟨_, h⟩
    rw [Bool.and_eq_true]
    constructor
    · unfold low bef
      by_cases hk0 : 0 < k
      · rw [if_pos hk0]
        simp only [decide_eq_true_eq]
        have := h (gt C (k - 1)) (H.mem (gt_mem (by omega)))
        unfold cpt at this
        unfold dif
        grind
      · rw [if_neg hk0]
    · unfold high aft
      by_cases hk1 : k + 1 < C.length
      · rw [if_pos hk1]
        simp only [decide_eq_true_eq]
        have := h (gt C (k + 1)) (H.mem (gt_mem (by omega)))
        unfold cpt at this
        unfold dif
        grind
      · rw [if_neg hk1]
/-- some corner is best -/
theorem some_corner {C : List Pt} (hn : 0 < C.length) (a b : Int) : ∃ k, k < C.length ∧ (low a b (bef C k) && high a b (aft C k)) = true := by
  have key : ∀ j k, j + k = C.length - 1 → low a b (bef C k) = true → ∃ m, m < C.length ∧ (low a b (bef C m) && high a b (aft C m)) = true := by
    intro j
    induction j with
    | zero =>
      intro k hk hl
      refine ⟨k, by omega, ?_⟩
      rw [hl]
      unfold high aft
      rw [if_neg (by omega)]
      rfl
    | succ j ih =>
      intro k hk hl
      cases hh : high a b (aft C k) with
      | true => exact ⟨k, by omega, by rw [hl, hh]; rfl⟩
      | false =>
        refine ih (k + 1) (by omega) ?_
        unfold high aft at hh
        rw [if_pos (by omega)] at hh
        simp only [decide_eq_false_iff_not] at hh
        unfold low bef
        rw [if_pos (by omega)]
        simp only [decide_eq_true_eq, Nat.add_sub_cancel]
        omega
  exact key (C.length - 1) 0 (by omega) rfl
theorem rng_gt (P : List Pt) : (List.range P.length).map (gt P) = P := by
  apply List.ext_getElem?
  intro i
  by_cases hi : i < P.length
  · rw [List.getElem?_map, List.getElem?_range hi, gt_get hi]; rfl
  · rw [List.getElem?_eq_none (by rw [List.length_map, List.length_range]; omega), List.getElem?_eq_none (by omega)]
theorem filter_rng (P : List Pt) (p : Pt → Bool) : ((List.range P.length).filter fun k => p (gt P k)).map (gt P) = P.filter p := by
  conv => rhs; rw [← rng_gt P]
  rw [List.filter_map]
  rfl
end DL

/-! F1: fractions -/
namespace DL
open PySem PySem.Spec PyProof.Rows L2
local macro_rules | `(tactic| walk_at "ev") => `(tactic| simp only [szL, Nat.reduceLeDiff, mBody, mBodyD, outP, outD, cVar, cC, cOp, cUn, cTest, cAndT, cOrT, cNotT, cAndV, cOrV, cIf, aNil, aCons, cTup, cLst, cSl, oNone, oSome, cCall, cCallF, cCallD, cMeth, noX', isL_list, isL_encP, tYesD, bnd_ok, bnd_exc, bnd_bad, lft_ok, lft_exc, lft_bad, isOk_ok, isOk_exc, isOk_bad, isD_int, isD_bool, isD_none, isD_str, isD_list, isD_tuple, isD_eP, isD_eT, isD_encP, isD_encT, allD, List.all_cons, List.all_nil, Bool.and_self, Bool.and_true, Bool.true_and, if_true, if_false, Bool.false_eq_true, ite_true, ite_false, reduceIte, List.length_cons, List.length_nil, List.map_cons, List.map_nil, List.cons_append, List.nil_append, List.replicate_succ, List.replicate_zero, List.getElem?_cons_zero, List.getElem?_cons_succ, List.set_cons_zero, List.set_cons_succ, wipeD, sSeq, sSet, sAsg, sRet, sIf, sExpr, sNil, sRaise, sSetF, sApp, sAug, sAugL, sPar, sPar3, fLst, bNm, bTup, bCons, bNil, pNot, pIsi, isiT, tyN, pNeg, Nat.reduceAdd, decide_true, decide_false, Bool.not_true, Bool.not_false, noX_ok, pLe_i, pLt_i, pGt_i, pGe_i, pAdd_i, pSub_i, pLen_l, pLen_t, pIx_t0, pIx_t1, pEq_i, pNe_i])
local macro_rules | `(tactic| walk_at "evs") => `(tactic| simp [szL, mBody, mBodyD, outP, outD, cVar, cC, cOp, cUn, cTest, cAndT, cOrT, cNotT, cAndV, cOrV, cIf, aNil, aCons, cTup, cLst, cSl, oNone, oSome, cCall, cCallF, cCallD, cMeth, noX', isL_list, isL_encP, tYesD, bnd_ok, bnd_exc, bnd_bad, lft_ok, lft_exc, lft_bad, isOk_ok, isOk_exc, isOk_bad, isD_int, isD_bool, isD_none, isD_str, isD_list, isD_tuple, isD_eP, isD_eT, isD_encP, isD_encT, allD, List.all_cons, List.all_nil, List.map_cons, List.map_nil, List.cons_append, List.nil_append, List.replicate_succ, List.replicate_zero, List.getElem?_cons_zero, List.getElem?_cons_succ, List.set_cons_zero, List.set_cons_succ, wipeD, sSeq, sSet, sAsg, sRet, sIf, sExpr, sNil, sRaise, sSetF, sApp, sAug, sAugL, sPar, sPar3, fLst, bNm, bTup, bCons, bNil, pNot, pIsi, isiT, tyN, pNeg, noX_ok, pLe_i, pLt_i, pGt_i, pGe_i, pAdd_i, pSub_i, pLen_l, pLen_t, pIx_t0, pIx_t1, pEq_i, pNe_i])
local macro_rules | `(tactic| walk_at "evx") => `(tactic| simp [szL, mBody, mBodyD, outP, outD, cVar, cC, cOp, cUn, cTest, cAndT, cOrT, cNotT, cAndV, cOrV, cIf, aNil, aCons, cTup, cLst, cSl, oNone, oSome, cCall, cCallF, cCallD, cMeth, noX', isL_list, isL_encP, tYesD, bnd_ok, bnd_exc, bnd_bad, lft_ok, lft_exc, lft_bad, isOk_ok, isOk_exc, isOk_bad, isD_int, isD_bool, isD_none, isD_str, isD_list, isD_tuple, isD_eP, isD_eT, isD_encP, isD_encT, allD, List.all_cons, List.all_nil, List.map_cons, List.map_nil, List.cons_append, List.nil_append, List.replicate_succ, List.replicate_zero, List.getElem?_cons_zero, List.getElem?_cons_succ, List.set_cons_zero, List.set_cons_succ, wipeD, sSeq, sSet, sAsg, sRet, sIf, sExpr, sNil, sRaise, sSetF, sApp, sAug, sAugL, sPar, sPar3, fLst, bNm, bTup, bCons, bNil, pNot, pIsi, isiT, tyN, pNeg, noX_ok, pLe_i, pLt_i, pGt_i, pGe_i, pAdd_i, pSub_i, pLen_l, pLen_t, pIx_t0, pIx_t1, pEq_i, pNe_i, *])
/-! ### the greatest common divisor -/
theorem gcd_step {a b : Int} (ha : 0 ≤ a) (hb : 0 < b) : Int.gcd b (a % b) = Int.gcd a b := by
  have e : (a % b).natAbs = a.natAbs % b.natAbs := by
    have h1 : a = (a.natAbs : Int) := by omega
    have h2 : b = (b.natAbs : Int) := by omega
    rw [h1, h2, ← Int.natCast_emod, Int.natAbs_natCast, Int.natAbs_natCast, Int.natAbs_natCast]
  show Nat.gcd b.natAbs (a % b).natAbs = Nat.gcd a.natAbs b.natAbs
  rw [e, Nat.gcd_comm a.natAbs, Nat.gcd_rec b.natAbs a.natAbs, Nat.gcd_comm]
theorem gcd_loop {i j : Nat} (mk : Int → Int → Env) (h1 : ∀ a b, cVar i (mk a b) () = .ok (.int a, ())) (h2 : ∀ a b, cVar j (mk a b) () = .ok (.int b, ())) (h3 : ∀ a b x y, ((mk a b).set i (some (.int x))).set j (some (.int y)) = mk x y) : ∀ (n : Nat) (a b : Int), 0 ≤ a → 0 ≤ b → b.natAbs + 2 ≤ n →
    sWhGo (cTest (cOp pNe (cVar j) (cC (.int 0)))) (sPar i j (aCons (cVar j) (aCons (cOp pMod (cVar i) (cVar j)) aNil))) n (mk a b) () = .ok (.nx (mk (Int.gcd a b : Int) 0), ())
  | 0, _, _, _, _, h => by omega
  | n + 1, a, b, ha, hb, h => by
    unfold sWhGo
    rw [ev_test (b := !decide (b = 0)) (s' := ()) (ev_op (s1 := ()) (h2 a b) rfl (pNe_i _ _)), bnd_ok]
    by_cases hz : b = 0
    · subst hz
      rw [if_neg (by simp)]
      have : (Int.gcd a 0 : Int) = a := by rw [Int.gcd_zero_right]; omega
      rw [this]
    · have hb' : 0 < b := by omega
      rw [if_pos (by simp [hz])]
      have hbody : sPar i j (aCons (cVar j) (aCons (cOp pMod (cVar i) (cVar j)) aNil)) (mk a b) () = .ok (.nx (mk b (a % b)), ()) := by
        unfold sPar
        rw [ev_aC (s2 := ()) (h2 a b) (ev_a1 (ev_op (s1 := ()) (z := .int (a % b)) (h1 a b) (h2 a b) (by show (if 0 < b then _ else _) = _; rw [if_pos hb']))), bnd_ok]
        dsimp only
        rw [h3]
      rw [hbody]
      dsimp only
      have hm1 := Int.emod_nonneg a (by omega : b ≠ 0)
      have hm2 := Int.emod_lt_of_pos a hb'
      rw [gcd_loop mk h1 h2 h3 n b (a % b) hb hm1 (by omega), gcd_step ha hb']
theorem pAbs_i (i : Int) : pAbs [.int i] = .ok (.int (i.natAbs : Int)) := by
  show R.ok (PyData.int (if i < 0 then -i else i)) = _
  congr 2
  split <;> omega
theorem m_common_eq (a b : Int) : m_common [.int a, .int b] = .ok (.int (Int.gcd a b : Int)) := by
  refine mBody_of ?_
  unfold b_common
  refine ev_seq (s' := ()) (ρ' := [some (.int (a.natAbs : Int)), some (.int (b.natAbs : Int))]) ?_ ?_
  · unfold sPar
    rw [ev_aC (s2 := ()) (ev_call (s1 := ()) (ev_a1 rfl) (pAbs_i a)) (ev_a1 (ev_call (s1 := ()) (ev_a1 rfl) (pAbs_i b)))]
    rfl
  · refine ev_seq (s' := ()) (ρ' := [some (.int (Int.gcd a b : Int)), some (.int 0)]) ?_ rfl
    unfold sWhile
    have := gcd_loop (i := 0) (j := 1) (fun a b => [some (.int a), some (.int b)]) (fun _ _ => rfl) (fun _ _ => rfl) (fun _ _ _ _ => rfl) (fuInt 1 [some (.int (a.natAbs : Int)), some (.int (b.natAbs : Int))]) a.natAbs b.natAbs (by omega) (by omega) (by show _ ≤ ((b.natAbs : Int)).natAbs + 2; omega)
    rw [this]
    have e : Int.gcd (a.natAbs : Int) (b.natAbs : Int) = Int.gcd a b := by
      show Nat.gcd ((a.natAbs : Int)).natAbs ((b.natAbs : Int)).natAbs = Nat.gcd a.natAbs b.natAbs
      rw [Int.natAbs_natCast, Int.natAbs_natCast]
    rw [e]
/-! ### lowest terms -/
def lowQ (n d : Int) : Pt := (n / (Int.gcd n d : Int), d / (Int.gcd n d : Int))
theorem gcd_pos' {n d : Int} (h : 0 < d) : 0 < (Int.gcd n d : Int) := by
  have : 0 < Int.gcd n d := Int.gcd_pos_of_ne_zero_right _ (by omega)
  omega
theorem gcd_le' {n d : Int} (h : 0 < d) : (Int.gcd n d : Int) ≤ d := Int.le_of_dvd h (Int.gcd_dvd_right ..)
theorem pDiv_i {i j : Int} (h : 0 < j) (k : j < 1073741824) : pDiv (.int i) (.int j) = .ok (.int (i / j)) := by
  show (if decide (0 < j) && decide (j < 1073741824) then _ else _) = _
  rw [decide_eq_true h, decide_eq_true k]
  rfl
theorem m_lowest_eq {n d : Int} (h : 0 < d) (k : d < 1073741824) : m_lowest [.int n, .int d] = .ok (eP (lowQ n d)) := by
  refine mBody_of ?_
  unfold b_lowest
  have hg := gcd_pos' (n := n) h
  have hl := gcd_le' (n := n) h
  refine ev_seq (s' := ()) (ev_if_f (s' := ()) (ev_test (ev_op (s1 := ()) rfl rfl (by rw [pLt_i, decide_eq_false (by omega)]))) rfl) (ev_let (s1 := ()) (ev_callF rfl (m_common_eq n d)) (ret_of (ev_tup (ev_aC (s2 := ()) (ev_op (s1 := ()) rfl rfl (pDiv_i hg (by omega))) (ev_a1 (ev_op (s1 := ()) rfl rfl (pDiv_i hg (by omega)))))) rfl))
theorem m__law_low_eq {n d : Int} (h : 0 < d) (k : d < 1073741824) : m__law_low [.int n, .int d] = .ok (eP (lowQ n d)) := by
  refine mBody_of ?_
  unfold b__law_low
  have hg := gcd_pos' (n := n) h
  have hl := gcd_le' (n := n) h
  refine ev_seq (s' := ()) (ρ' := [some (.int n), some (.int d), some (.int (n.natAbs : Int)), some (.int d)]) ?_ ?_
  · unfold sPar
    rw [ev_aC (s2 := ()) (ev_call (s1 := ()) (ev_a1 rfl) (pAbs_i n)) (ev_a1 rfl)]
    rfl
  · refine ev_seq (s' := ()) (ρ' := [some (.int n), some (.int d), some (.int (Int.gcd n d : Int)), some (.int 0)]) ?_ ?_
    · unfold sWhile
      have := gcd_loop (i := 2) (j := 3) (fun a b => [some (.int n), some (.int d), some (.int a), some (.int b)]) (fun _ _ => rfl) (fun _ _ => rfl) (fun _ _ _ _ => rfl) (fuInt 3 [some (.int n), some (.int d), some (.int (n.natAbs : Int)), some (.int d)]) n.natAbs d (by omega) (by omega) (by show _ ≤ d.natAbs + 2; omega)
      rw [this]
      have e : Int.gcd (n.natAbs : Int) d = Int.gcd n d := by
        show Nat.gcd ((n.natAbs : Int)).natAbs d.natAbs = Nat.gcd n.natAbs d.natAbs
        rw [Int.natAbs_natCast]
      rw [e]
    · exact ret_of (ev_tup (ev_aC (s2 := ()) (ev_op (s1 := ()) rfl rfl (pDiv_i hg (by omega))) (ev_a1 (ev_op (s1 := ()) rfl rfl (pDiv_i hg (by omega)))))) rfl
def IsLow (p : Pt) : Prop := 0 < p.2 ∧ Int.gcd p.1 p.2 = 1
theorem lowQ_val {n d : Int} (h : 0 < d) : n = (lowQ n d).1 * (Int.gcd n d : Int) ∧ d = (lowQ n d).2 * (Int.gcd n d : Int) := by
  unfold lowQ
  exact ⟨(Int.ediv_mul_cancel (Int.gcd_dvd_left ..)).symm, (Int.ediv_mul_cancel (Int.gcd_dvd_right ..)).symm⟩
theorem lowQ_low {n d : Int} (h : 0 < d) : IsLow (lowQ n d) := by
  have hg := gcd_pos' (n := n) h
  refine ⟨?_, ?_⟩
  · show 0 < d / (Int.gcd n d : Int)
    exact Int.ediv_pos_of_pos_of_dvd h (by omega) (Int.gcd_dvd_right ..)
  · show Int.gcd (n / (Int.gcd n d : Int)) (d / (Int.gcd n d : Int)) = 1
    exact Int.gcd_ediv_gcd_ediv_gcd (by omega)
def EqQ (p q : Pt) : Prop := p.1 * q.2 = q.1 * p.2
theorem dvd_cop {a b c : Int} (h : b ∣ a * c) (g : Int.gcd a b = 1) : b ∣ c := by
  rw [← Int.natAbs_dvd_natAbs] at h ⊢
  rw [Int.natAbs_mul] at h
  have g' : Nat.Coprime b.natAbs a.natAbs := by
    show Nat.gcd b.natAbs a.natAbs = 1
    rw [Nat.gcd_comm]; exact g
  exact g'.dvd_of_dvd_mul_left h
theorem low_unique {p q : Pt} (hp : IsLow p) (hq : IsLow q) (h : EqQ p q) : p = q := by
  unfold EqQ at h
  have c1 : p.2 ∣ q.2 := by
    have : p.2 ∣ p.1 * q.2 := ⟨q.1, by rw [h]; exact Int.mul_comm _ _⟩
    exact dvd_cop this hp.2
  have c2 : q.2 ∣ p.2 := by
    have : q.2 ∣ q.1 * p.2 := ⟨p.1, by rw [← h]; exact Int.mul_comm _ _⟩
    exact dvd_cop this hq.2
  have e2 : p.2 = q.2 := Int.dvd_antisymm (by have := hp.1; omega) (by have := hq.1; omega) c1 c2
  have e1 : p.1 = q.1 := by
    rw [e2] at h
    exact Int.eq_of_mul_eq_mul_right (by have := hq.1; omega) h
  exact Prod.ext e1 e2
/-! ### order -/
def ltQ (p q : Pt) : Bool := decide (p.1 * q.2 < q.1 * p.2)
def LeQ (p q : Pt) : Prop := p.1 * q.2 ≤ q.1 * p.2
theorem LeQ.trans {p q r : Pt} (hp : 0 < p.2) (hq : 0 < q.2) (hr : 0 < r.2) (h1 : LeQ p q) (h2 : LeQ q r) : LeQ p r := by
  unfold LeQ at *
  have e1 := Int.mul_le_mul_of_nonneg_right h1 (Int.le_of_lt hr)
  have e2 := Int.mul_le_mul_of_nonneg_right h2 (Int.le_of_lt hp)
  have e3 : q.2 * (p.1 * r.2) ≤ q.2 * (r.1 * p.2) := by grind
  exact Int.le_of_mul_le_mul_left e3 hq
theorem LeQ.anti {p q : Pt} (h1 : LeQ p q) (h2 : LeQ q p) : EqQ p q := Int.le_antisymm h1 h2
theorem LeQ.low {n d : Int} (h : 0 < d) {q : Pt} : LeQ (lowQ n d) q ↔ LeQ (n, d) q := by
  obtain ⟨e1, e2⟩ := lowQ_val (n := n) h
  have hg := gcd_pos' (n := n) h
  generalize hG : (Int.gcd n d : Int) = G at e1 e2 hg
  generalize lowQ n d = l at e1 e2 ⊢
  unfold LeQ
  show l.1 * q.2 ≤ q.1 * l.2 ↔ n * q.2 ≤ q.1 * d
  rw [e1, e2]
  constructor
  · intro h
    have := Int.mul_le_mul_of_nonneg_right h (Int.le_of_lt hg)
    grind
  · intro h
    refine Int.le_of_mul_le_mul_right (a := G) ?_ hg
    grind
theorem LeQ.low' {n d : Int} (h : 0 < d) {q : Pt} : LeQ q (lowQ n d) ↔ LeQ q (n, d) := by
  obtain ⟨e1, e2⟩ := lowQ_val (n := n) h
  have hg := gcd_pos' (n := n) h
  generalize hG : (Int.gcd n d : Int) = G at e1 e2 hg
  generalize lowQ n d = l at e1 e2 ⊢
  unfold LeQ
  show q.1 * l.2 ≤ l.1 * q.2 ↔ q.1 * d ≤ n * q.2
  rw [e1, e2]
  constructor
  · intro h
    have := Int.mul_le_mul_of_nonneg_right h (Int.le_of_lt hg)
    grind
  · intro h
    refine Int.le_of_mul_le_mul_right (a := G) ?_ hg
    grind
/-- the greater -/
def mxQ (b q : Pt) : Pt := if ltQ b q = true then q else b
theorem mxQ_spec {L : List Pt} : ∀ {b : Pt}, (∀ x ∈ b :: L, 0 < x.2) → L.foldl mxQ b ∈ b :: L ∧ ∀ x ∈ b :: L, LeQ x (L.foldl mxQ b) := by
  induction L with
  | nil =>
    intro b h
    refine ⟨by simp, fun x hx => ?_⟩
    simp at hx
    subst hx
    exact Int.le_refl _
  | cons q L ih =>
    intro b h
    have hb := h b (by simp)
    have hq := h q (by simp)
    have hm : 0 < (mxQ b q).2 := by unfold mxQ; split <;> assumption
    obtain ⟨i1, i2⟩ := ih (b := mxQ b q) fun x hx => by
      rcases List.mem_cons.mp hx with e | e
      · rw [e]; exact hm
      · exact h x (by simp [e])
    rw [List.foldl_cons]
    have hr : 0 < (L.foldl mxQ (mxQ b q)).2 := by
      rcases List.mem_cons.mp i1 with e | e
      · rw [e]; exact hm
      · exact h _ (by simp [e])
    have hmm : (mxQ b q = q ∨ mxQ b q = b) ∧ LeQ b (mxQ b q) ∧ LeQ q (mxQ b q) := by
      unfold mxQ ltQ
      by_cases c : b.1 * q.2 < q.1 * b.2
      · rw [if_pos (by simpa using c)]
        exact ⟨.inl rfl, Int.le_of_lt c, Int.le_refl _⟩
      · rw [if_neg (by simpa using c)]
        exact ⟨.inr rfl, Int.le_refl _, by unfold LeQ; omega⟩
    refine ⟨?_, fun x hx => ?_⟩
    · rcases List.mem_cons.mp i1 with e | e
      · rcases hmm.1 with z | z
        · rw [e, z]; simp
        · rw [e, z]; simp
      · exact List.mem_cons_of_mem _ (List.mem_cons_of_mem _ e)
    · have hi := i2 (mxQ b q) (by simp)
      rcases List.mem_cons.mp hx with e | e
      · rw [e]; exact hmm.2.1.trans hb hm hr hi
      · rcases List.mem_cons.mp e with e | e
        · rw [e]; exact hmm.2.2.trans hq hm hr hi
        · exact i2 x (by simp [e])
def B64 (p : Pt) : Prop := -(2 ^ 64) < p.1 ∧ p.1 < 2 ^ 64
theorem m_less_eq {p q : Pt} (hp : B64 p) (hq : B64 q) : m_less [eP p, eP q] = .ok (.bool (ltQ p q)) :=
  mBody_of (ret_of (ev_op (s1 := ()) (s2 := ()) (ev_op (s1 := ()) (ev_op (s2 := ()) rfl rfl (eP_0 _)) (ev_op (s2 := ()) rfl rfl (eP_1 _)) (pMul_i hp)) (ev_op (s1 := ()) (ev_op (s2 := ()) rfl rfl (eP_0 _)) (ev_op (s2 := ()) rfl rfl (eP_1 _)) (pMul_i hq)) (pLt_i _ _)) rfl)
theorem m__law_below_eq {p q : Pt} (hp : B64 p) (hq : B64 q) : m__law_below [eP p, eP q] = .ok (.bool (ltQ p q)) :=
  mBody_of (ret_of (ev_op (s1 := ()) (s2 := ()) (ev_op (s1 := ()) (ev_op (s2 := ()) rfl rfl (eP_0 _)) (ev_op (s2 := ()) rfl rfl (eP_1 _)) (pMul_i hp)) (ev_op (s1 := ()) (ev_op (s2 := ()) rfl rfl (eP_0 _)) (ev_op (s2 := ()) rfl rfl (eP_1 _)) (pMul_i hq)) (pLt_i _ _)) rfl)
end DL

/-! F2: heights of the hull -/
namespace DL
open PySem PySem.Spec PyProof.Rows L2
local macro_rules | `(tactic| walk_at "ev") => `(tactic| simp only [szL, Nat.reduceLeDiff, mBody, mBodyD, outP, outD, cVar, cC, cOp, cUn, cTest, cAndT, cOrT, cNotT, cAndV, cOrV, cIf, aNil, aCons, cTup, cLst, cSl, oNone, oSome, cCall, cCallF, cCallD, cMeth, noX', isL_list, isL_encP, tYesD, bnd_ok, bnd_exc, bnd_bad, lft_ok, lft_exc, lft_bad, isOk_ok, isOk_exc, isOk_bad, isD_int, isD_bool, isD_none, isD_str, isD_list, isD_tuple, isD_eP, isD_eT, isD_encP, isD_encT, allD, List.all_cons, List.all_nil, Bool.and_self, Bool.and_true, Bool.true_and, if_true, if_false, Bool.false_eq_true, ite_true, ite_false, reduceIte, List.length_cons, List.length_nil, List.map_cons, List.map_nil, List.cons_append, List.nil_append, List.replicate_succ, List.replicate_zero, List.getElem?_cons_zero, List.getElem?_cons_succ, List.set_cons_zero, List.set_cons_succ, wipeD, sSeq, sSet, sAsg, sRet, sIf, sExpr, sNil, sRaise, sSetF, sApp, sAug, sAugL, sPar, sPar3, fLst, bNm, bTup, bCons, bNil, pNot, pIsi, isiT, tyN, pNeg, Nat.reduceAdd, decide_true, decide_false, Bool.not_true, Bool.not_false, noX_ok, pLe_i, pLt_i, pGt_i, pGe_i, pAdd_i, pSub_i, pLen_l, pLen_t, pIx_t0, pIx_t1, pEq_i, pNe_i])
local macro_rules | `(tactic| walk_at "evs") => `(tactic| simp [szL, mBody, mBodyD, outP, outD, cVar, cC, cOp, cUn, cTest, cAndT, cOrT, cNotT, cAndV, cOrV, cIf, aNil, aCons, cTup, cLst, cSl, oNone, oSome, cCall, cCallF, cCallD, cMeth, noX', isL_list, isL_encP, tYesD, bnd_ok, bnd_exc, bnd_bad, lft_ok, lft_exc, lft_bad, isOk_ok, isOk_exc, isOk_bad, isD_int, isD_bool, isD_none, isD_str, isD_list, isD_tuple, isD_eP, isD_eT, isD_encP, isD_encT, allD, List.all_cons, List.all_nil, List.map_cons, List.map_nil, List.cons_append, List.nil_append, List.replicate_succ, List.replicate_zero, List.getElem?_cons_zero, List.getElem?_cons_succ, List.set_cons_zero, List.set_cons_succ, wipeD, sSeq, sSet, sAsg, sRet, sIf, sExpr, sNil, sRaise, sSetF, sApp, sAug, sAugL, sPar, sPar3, fLst, bNm, bTup, bCons, bNil, pNot, pIsi, isiT, tyN, pNeg, noX_ok, pLe_i, pLt_i, pGt_i, pGe_i, pAdd_i, pSub_i, pLen_l, pLen_t, pIx_t0, pIx_t1, pEq_i, pNe_i])
local macro_rules | `(tactic| walk_at "evx") => `(tactic| simp [szL, mBody, mBodyD, outP, outD, cVar, cC, cOp, cUn, cTest, cAndT, cOrT, cNotT, cAndV, cOrV, cIf, aNil, aCons, cTup, cLst, cSl, oNone, oSome, cCall, cCallF, cCallD, cMeth, noX', isL_list, isL_encP, tYesD, bnd_ok, bnd_exc, bnd_bad, lft_ok, lft_exc, lft_bad, isOk_ok, isOk_exc, isOk_bad, isD_int, isD_bool, isD_none, isD_str, isD_list, isD_tuple, isD_eP, isD_eT, isD_encP, isD_encT, allD, List.all_cons, List.all_nil, List.map_cons, List.map_nil, List.cons_append, List.nil_append, List.replicate_succ, List.replicate_zero, List.getElem?_cons_zero, List.getElem?_cons_succ, List.set_cons_zero, List.set_cons_succ, wipeD, sSeq, sSet, sAsg, sRet, sIf, sExpr, sNil, sRaise, sSetF, sApp, sAug, sAugL, sPar, sPar3, fLst, bNm, bTup, bCons, bNil, pNot, pIsi, isiT, tyN, pNeg, noX_ok, pLe_i, pLt_i, pGt_i, pGe_i, pAdd_i, pSub_i, pLen_l, pLen_t, pIx_t0, pIx_t1, pEq_i, pNe_i, *])
def ins (pl : Pt) (e : Pt × Pt) : Bool := decide (e.1.1 * pl.2 ≤ pl.1) && decide (pl.1 ≤ e.2.1 * pl.2)
/-- the height over a place of the line from a to b, not lowest -/
def chN (pl a b : Pt) : Int := a.2 * (b.1 - a.1) * pl.2 + (pl.1 - a.1 * pl.2) * (b.2 - a.2)
def chD (pl a b : Pt) : Int := (b.1 - a.1) * pl.2
def cand (pl : Pt) (e : Pt × Pt) : Pt := if e.2.1 - e.1.1 = 0 then (e.2.2, 1) else lowQ (chN pl e.1 e.2) (chD pl e.1 e.2)
def hofL (E : List (Pt × Pt)) (pl : Pt) : Pt := ((E.filter (ins pl)).map (cand pl)).foldl mxQ (0, 1)
def edges (C : List Pt) : List (Pt × Pt) := C.zip (C.drop 1)
def hof (C : List Pt) (pl : Pt) : Pt := hofL (edges C) pl
theorem hofL_more (E : List (Pt × Pt)) (e : Pt × Pt) (pl : Pt) : hofL (E ++ [e]) pl = if ins pl e = true then mxQ (hofL E pl) (cand pl e) else hofL E pl := by
  unfold hofL
  rw [List.filter_append]
  cases h : ins pl e with
  | true => rw [List.filter_cons_of_pos h]; simp
  | false => rw [List.filter_cons_of_neg (by simp [h])]; simp
structure OkPl (pl : Pt) : Prop where
  n : 0 ≤ pl.1
  n2 : pl.1 ≤ 12000
  d : 1 ≤ pl.2
  d2 : pl.2 ≤ 1000
/-- an edge of a rising chain in the small square -/
structure OkE (e : Pt × Pt) : Prop where
  x : 0 ≤ e.1.1
  y : 0 ≤ e.1.2
  u : e.1.1 ≤ e.2.1
  v : e.1.2 ≤ e.2.2
  x2 : e.2.1 ≤ 12
  y2 : e.2.2 ≤ 12
theorem mul_bd {a b A B : Int} (ha : 0 ≤ a) (hA : a ≤ A) (hb : 0 ≤ b) (hB : b ≤ B) : 0 ≤ a * b ∧ a * b ≤ A * B := by
  refine ⟨Int.mul_nonneg ha hb, ?_⟩
  have h1 := Int.mul_le_mul_of_nonneg_right hA hb
  have h2 := Int.mul_le_mul_of_nonneg_left hB (by omega : 0 ≤ A)
  omega
theorem chN_bd {pl : Pt} {e : Pt × Pt} (h : OkPl pl) (k : OkE e) (i : ins pl e = true) : 0 ≤ chN pl e.1 e.2 ∧ chN pl e.1 e.2 ≤ 1000000 := by
  unfold ins at i
  rw [Bool.and_eq_true, decide_eq_true_eq, decide_eq_true_eq] at i
  obtain ⟨n1, n2, d1, d2⟩ := h
  obtain ⟨x, y, u, v, x2, y2⟩ := k
  have b1 := mul_bd (a := e.1.2) (b := e.2.1 - e.1.1) (A := 12) (B := 12) y (by omega) (by omega) (by omega)
  have b2 := mul_bd (a := e.1.2 * (e.2.1 - e.1.1)) (b := pl.2) (A := 12 * 12) (B := 1000) b1.1 b1.2 (by omega) d2
  have b0 := mul_bd (a := e.1.1) (b := pl.2) (A := 12) (B := 1000) x (by omega) (by omega) d2
  have b3 := mul_bd (a := pl.1 - e.1.1 * pl.2) (b := e.2.2 - e.1.2) (A := 12000) (B := 12) (by omega) (by omega) (by omega) (by omega)
  unfold chN
  omega
theorem chD_bd {pl : Pt} {e : Pt × Pt} (h : OkPl pl) (k : OkE e) (z : ¬ e.2.1 - e.1.1 = 0) : 0 < chD pl e.1 e.2 ∧ chD pl e.1 e.2 ≤ 12000 := by
  obtain ⟨n1, n2, d1, d2⟩ := h
  obtain ⟨x, y, u, v, x2, y2⟩ := k
  have b1 := mul_bd (a := e.2.1 - e.1.1) (b := pl.2) (A := 12) (B := 1000) (by omega) (by omega) (by omega) d2
  have b2 : 0 < (e.2.1 - e.1.1) * pl.2 := Int.mul_pos (by omega) (by omega)
  unfold chD
  omega
theorem lowQ_num {n d : Int} (h : 0 < d) (hn : 0 ≤ n) : 0 ≤ (lowQ n d).1 ∧ (lowQ n d).1 ≤ n := by
  have hg := gcd_pos' (n := n) h
  unfold lowQ
  exact ⟨Int.ediv_nonneg hn (by omega), Int.ediv_le_self _ hn⟩
def Nm (p : Pt) : Prop := 0 ≤ p.1 ∧ p.1 ≤ 1000000 ∧ IsLow p
theorem Nm.b {p : Pt} (h : Nm p) : B64 p := by have := h.1; have := h.2.1; unfold B64; omega
theorem low1 (a : Int) : IsLow (a, 1) := ⟨Int.one_pos, Int.gcd_one_right ..⟩
theorem cand_nm {pl : Pt} {e : Pt × Pt} (h : OkPl pl) (k : OkE e) (i : ins pl e = true) : Nm (cand pl e) := by
  unfold cand
  by_cases z : e.2.1 - e.1.1 = 0
  · rw [if_pos z]
    have := k.y2; have := k.y; have := k.v
    exact ⟨by show 0 ≤ e.2.2; omega, by show e.2.2 ≤ _; omega, low1 _⟩
  · rw [if_neg z]
    have c1 := chN_bd h k i
    have c2 := chD_bd h k z
    have c3 := lowQ_num c2.1 c1.1
    exact ⟨c3.1, by omega, lowQ_low c2.1⟩
theorem mxQ_nm {p q : Pt} (hp : Nm p) (hq : Nm q) : Nm (mxQ p q) := by
  unfold mxQ
  split <;> assumption
theorem hofL_nm {pl : Pt} (h : OkPl pl) : ∀ E : List (Pt × Pt), (∀ e ∈ E, OkE e) → Nm (hofL E pl) := by
  suffices hs : ∀ (E : List (Pt × Pt)) (b : Pt), Nm b → (∀ e ∈ E, OkE e) → Nm (((E.filter (ins pl)).map (cand pl)).foldl mxQ b) from
    fun E hE => hs E (0, 1) ⟨by decide, by decide, low1 0⟩ hE
  intro E
  induction E with
  | nil => intro b hb _; exact hb
  | cons e E ih =>
    intro b hb hE
    cases hi : ins pl e with
    | true =>
      rw [List.filter_cons_of_pos hi, List.map_cons, List.foldl_cons]
      exact ih _ (mxQ_nm hb (cand_nm h (hE e (by simp)) hi)) fun x hx => hE x (List.mem_cons_of_mem _ hx)
    | false =>
      rw [List.filter_cons_of_neg (by simp [hi])]
      exact ih _ hb fun x hx => hE x (List.mem_cons_of_mem _ hx)
def hBody : Env → Unit → R (Fl × Unit) :=
      (sIf (cTest (cChain pLe pLe (cOp pMul (cOp pIx (cVar 3) (cC (.int 0))) (cOp pIx (cVar 1) (cC (.int 1)))) (cOp pIx (cVar 1) (cC (.int 0))) (cOp pMul (cOp pIx (cVar 4) (cC (.int 0))) (cOp pIx (cVar 1) (cC (.int 1))))))
      (sSeq (sSet 5 (cOp pSub (cOp pIx (cVar 4) (cC (.int 0))) (cOp pIx (cVar 3) (cC (.int 0)))))
      (sSeq (sIf (cTest (cOp pEq (cVar 5) (cC (.int 0))))
      (sSet 6 (cTup (aCons (cOp pIx (cVar 4) (cC (.int 1))) (aCons (cC (.int 1)) aNil))))
      (sSeq (sSet 7 (cOp pAdd (cOp pMul (cOp pMul (cOp pIx (cVar 3) (cC (.int 1))) (cVar 5)) (cOp pIx (cVar 1) (cC (.int 1)))) (cOp pMul (cOp pSub (cOp pIx (cVar 1) (cC (.int 0))) (cOp pMul (cOp pIx (cVar 3) (cC (.int 0))) (cOp pIx (cVar 1) (cC (.int 1))))) (cOp pSub (cOp pIx (cVar 4) (cC (.int 1))) (cOp pIx (cVar 3) (cC (.int 1)))))))
      (sSet 6 (cCallF 2 m_lowest (aCons (cVar 7) (aCons (cOp pMul (cVar 5) (cOp pIx (cVar 1) (cC (.int 1)))) aNil))))))
      (sSet 2 (cIf (cTest (cCallF 2 m_less (aCons (cVar 2) (aCons (cVar 6) aNil)))) (cVar 6) (cVar 2)))))
      sNil)
theorem cIf_t {d : Type} {t : Env → d → R (Bool × d)} {a b : Env → d → R (PD × d)} {ρ : Env} {s s1 : d} {r : R (PD × d)} (h : t ρ s = .ok (true, s1)) (k : a ρ s1 = r) : cIf t a b ρ s = r := by
  unfold cIf
  rw [h, bnd_ok]
  exact k
theorem cIf_f {d : Type} {t : Env → d → R (Bool × d)} {a b : Env → d → R (PD × d)} {ρ : Env} {s s1 : d} {r : R (PD × d)} (h : t ρ s = .ok (false, s1)) (k : b ρ s1 = r) : cIf t a b ρ s = r := by
  unfold cIf
  rw [h, bnd_ok]
  exact k
theorem hBody_eq {pl : Pt} (h : OkPl pl) {e : Pt × Pt} (k : OkE e) (C : Option PD) {best : Pt} (hb : Nm best) (c d f : Option PD) :
    ∃ c' d' f', hBody [C, some (eP pl), some (eP best), some (eP e.1), some (eP e.2), c, d, f] () = .ok (.nx [C, some (eP pl), some (eP (if ins pl e = true then mxQ best (cand pl e) else best)), some (eP e.1), some (eP e.2), c', d', f'], ()) := by
  obtain ⟨n1, n2, d1, d2⟩ := h
  have ok : OkPl pl := ⟨n1, n2, d1, d2⟩
  have hk := k
  obtain ⟨x, y, u, v, x2, y2⟩ := k
  have b0 := mul_bd (a := e.1.1) (b := pl.2) (A := 12) (B := 1000) x (by omega) (by omega) d2
  have ht : cTest (cChain pLe pLe (cOp pMul (cOp pIx (cVar 3) (cC (.int 0))) (cOp pIx (cVar 1) (cC (.int 1)))) (cOp pIx (cVar 1) (cC (.int 0))) (cOp pMul (cOp pIx (cVar 4) (cC (.int 0))) (cOp pIx (cVar 1) (cC (.int 1))))) [C, some (eP pl), some (eP best), some (eP e.1), some (eP e.2), c, d, f] () = .ok (ins pl e, ()) :=
    ev_test (chain_le (d := Unit) _ _ _ _ () _ _ _ (ev_op (s1 := ()) (ev_op (s2 := ()) rfl rfl (eP_0 _)) (ev_op (s2 := ()) rfl rfl (eP_1 _)) (pMul_i (by omega))) (ev_op (s2 := ()) rfl rfl (eP_0 _)) (ev_op (s1 := ()) (ev_op (s2 := ()) rfl rfl (eP_0 _)) (ev_op (s2 := ()) rfl rfl (eP_1 _)) (pMul_i (by omega))))
  unfold hBody
  cases hi : ins pl e with
  | false => exact ⟨c, d, f, ev_if_f (by rw [ht, hi]) rfl⟩
  | true =>
    have hc := cand_nm ok hk hi
    have fin : ∀ (c f : Option PD), sSet 2 (cIf (cTest (cCallF 2 m_less (aCons (cVar 2) (aCons (cVar 6) aNil)))) (cVar 6) (cVar 2)) [C, some (eP pl), some (eP best), some (eP e.1), some (eP e.2), c, some (eP (cand pl e)), f] () = .ok (.nx [C, some (eP pl), some (eP (mxQ best (cand pl e))), some (eP e.1), some (eP e.2), c, some (eP (cand pl e)), f], ()) := fun c f => by
      refine ev_set (v := eP (mxQ best (cand pl e))) ?_
      unfold mxQ
      cases hl : ltQ best (cand pl e) with
      | true => exact cIf_t (s1 := ()) (ev_test (ev_callF rfl (by rw [m_less_eq hb.b hc.b, hl]))) rfl
      | false => exact cIf_f (s1 := ()) (ev_test (ev_callF rfl (by rw [m_less_eq hb.b hc.b, hl]))) rfl
    by_cases z : e.2.1 - e.1.1 = 0
    · refine ⟨_, _, _, ev_if_t (s' := ()) (by rw [ht, hi]) (ev_let (s1 := ()) (ev_op (s1 := ()) (ev_op (s2 := ()) rfl rfl (eP_0 _)) (ev_op (s2 := ()) rfl rfl (eP_0 _)) (pSub_i _ _)) (ev_seq (s' := ()) (ρ' := [C, some (eP pl), some (eP best), some (eP e.1), some (eP e.2), some (.int (e.2.1 - e.1.1)), some (eP (cand pl e)), f]) (ev_if_t (s' := ()) (ev_test (ev_op (s1 := ()) rfl rfl (by rw [pEq_i, decide_eq_true z]))) ?_) (fin _ _)))⟩
      have hce : cand pl e = (e.2.2, 1) := by unfold cand; rw [if_pos z]
      rw [hce]
      exact ev_set (ev_tup (ev_aC (s2 := ()) (ev_op (s2 := ()) rfl rfl (eP_1 _)) (ev_a1 rfl)))
    · have c1 := chN_bd ok hk hi
      have c2 := chD_bd ok hk z
      have b1 := mul_bd (a := e.1.2) (b := e.2.1 - e.1.1) (A := 12) (B := 12) y (by omega) (by omega) (by omega)
      refine ⟨_, _, _, ev_if_t (s' := ()) (by rw [ht, hi]) (ev_let (s1 := ()) (ev_op (s1 := ()) (ev_op (s2 := ()) rfl rfl (eP_0 _)) (ev_op (s2 := ()) rfl rfl (eP_0 _)) (pSub_i _ _)) (ev_seq (s' := ()) (ρ' := [C, some (eP pl), some (eP best), some (eP e.1), some (eP e.2), some (.int (e.2.1 - e.1.1)), some (eP (cand pl e)), some (.int (chN pl e.1 e.2))]) (ev_if_f (s' := ()) (ev_test (ev_op (s1 := ()) rfl rfl (by rw [pEq_i, decide_eq_false z]))) ?_) (fin _ _)))⟩
      have hce : cand pl e = lowQ (chN pl e.1 e.2) (chD pl e.1 e.2) := by unfold cand; rw [if_neg z]
      rw [hce]
      refine ev_let (s1 := ()) (v := .int (chN pl e.1 e.2)) (ev_op (s1 := ()) (ev_op (s1 := ()) (ev_op (s1 := ()) (ev_op (s2 := ()) rfl rfl (eP_1 _)) rfl (pMul_i (by omega))) (ev_op (s2 := ()) rfl rfl (eP_1 _)) (pMul_i (by omega))) (ev_op (s1 := ()) (ev_op (s1 := ()) (ev_op (s2 := ()) rfl rfl (eP_0 _)) (ev_op (s1 := ()) (ev_op (s2 := ()) rfl rfl (eP_0 _)) (ev_op (s2 := ()) rfl rfl (eP_1 _)) (pMul_i (by omega))) (pSub_i _ _)) (ev_op (s1 := ()) (ev_op (s2 := ()) rfl rfl (eP_1 _)) (ev_op (s2 := ()) rfl rfl (eP_1 _)) (pSub_i _ _)) (pMul_i (by omega))) (pAdd_i _ _)) ?_
      exact ev_set (ev_callF (ev_aC (s2 := ()) rfl (ev_a1 (ev_op (s1 := ()) rfl (ev_op (s2 := ()) rfl rfl (eP_1 _)) (pMul_i (by omega))))) (m_lowest_eq (d := chD pl e.1 e.2) c2.1 (by omega)))
theorem zip_it {d : Type} {ρ : Env} {s : d} {i : Nat} (C : List Pt) (h : ρ[i]? = some (some (encP C))) : iZp (aCons (cVar i) (aCons (cSl pSl (cVar i) (oSome (cC (.int 1))) oNone) aNil)) ρ s = .ok ((edges C).map fun p => PyData.tuple [eP p.1, eP p.2], s) := by
  have hv : ∀ s : d, cVar i ρ s = .ok (encP C, s) := fun s => by unfold cVar; rw [h]
  have hs : cSl pSl (cVar i) (oSome (cC (.int 1))) oNone ρ s = .ok (encP (C.drop 1), s) := by
    unfold cSl
    rw [hv, bnd_ok]
    show lft (isOk (R.ok (PyData.list (cutD (C.map eP) (some 1) none)))) s = _
    rw [cut_1, ← List.map_drop]
    rfl
  unfold iZp
  rw [ev_aC (hv s) (ev_a1 hs), bnd_ok]
  show R.ok (zipD (C.map eP) ((C.drop 1).map eP), s) = _
  rw [zipD_map]
  rfl
theorem m_height_of_eq {C : List Pt} {pl : Pt} (h : OkPl pl) (hE : ∀ e ∈ edges C, OkE e) : m_height_of [encP C, eP pl] = .ok (eP (hof C pl)) := by
  refine mBody_of ?_
  unfold b_height_of
  refine ev_seq (s' := ()) (ρ' := [some (encP C), some (eP pl), some (eP (0, 1)), none, none, none, none, none]) rfl ?_
  obtain ⟨ρ', s', e, i⟩ := sForGo_inv (d := Unit) (bd := bTup (bCons (bNm 3) (bCons (bNm 4) bNil))) (body := hBody) (fun p : Pt × Pt => PyData.tuple [eP p.1, eP p.2])
    (fun pre ρ _ => ∃ a b c d f, ρ = [some (encP C), some (eP pl), some (eP (hofL pre pl)), a, b, c, d, f]) (edges C) [] [some (encP C), some (eP pl), some (eP (0, 1)), none, none, none, none, none] () ⟨_, _, _, _, _, rfl⟩ fun pre e q ρ s hpq hi => by
      obtain ⟨a, b, c, d, f, rfl⟩ := hi
      rw [List.nil_append] at hpq
      have hnm := hofL_nm h pre fun x hx => hE x (by rw [hpq]; exact List.mem_append_left _ hx)
      obtain ⟨c', d', f', hb⟩ := hBody_eq h (hE e (by rw [hpq]; simp)) (some (encP C)) hnm c d f
      refine ⟨_, _, (), rfl, hb, ⟨some (eP e.1), some (eP e.2), c', d', f', ?_⟩⟩
      rw [hofL_more]
  obtain ⟨a, b, c, d, f, rfl⟩ := i
  exact ev_seq (ev_for (s' := ()) (zip_it C rfl) e) rfl
end DL

/-! F3: the hull's heights are the greatest -/
namespace DL
open PySem PySem.Spec PyProof.Rows L2
local macro_rules | `(tactic| walk_at "ev") => `(tactic| simp only [szL, Nat.reduceLeDiff, mBody, mBodyD, outP, outD, cVar, cC, cOp, cUn, cTest, cAndT, cOrT, cNotT, cAndV, cOrV, cIf, aNil, aCons, cTup, cLst, cSl, oNone, oSome, cCall, cCallF, cCallD, cMeth, noX', isL_list, isL_encP, tYesD, bnd_ok, bnd_exc, bnd_bad, lft_ok, lft_exc, lft_bad, isOk_ok, isOk_exc, isOk_bad, isD_int, isD_bool, isD_none, isD_str, isD_list, isD_tuple, isD_eP, isD_eT, isD_encP, isD_encT, allD, List.all_cons, List.all_nil, Bool.and_self, Bool.and_true, Bool.true_and, if_true, if_false, Bool.false_eq_true, ite_true, ite_false, reduceIte, List.length_cons, List.length_nil, List.map_cons, List.map_nil, List.cons_append, List.nil_append, List.replicate_succ, List.replicate_zero, List.getElem?_cons_zero, List.getElem?_cons_succ, List.set_cons_zero, List.set_cons_succ, wipeD, sSeq, sSet, sAsg, sRet, sIf, sExpr, sNil, sRaise, sSetF, sApp, sAug, sAugL, sPar, sPar3, fLst, bNm, bTup, bCons, bNil, pNot, pIsi, isiT, tyN, pNeg, Nat.reduceAdd, decide_true, decide_false, Bool.not_true, Bool.not_false, noX_ok, pLe_i, pLt_i, pGt_i, pGe_i, pAdd_i, pSub_i, pLen_l, pLen_t, pIx_t0, pIx_t1, pEq_i, pNe_i])
local macro_rules | `(tactic| walk_at "evs") => `(tactic| simp [szL, mBody, mBodyD, outP, outD, cVar, cC, cOp, cUn, cTest, cAndT, cOrT, cNotT, cAndV, cOrV, cIf, aNil, aCons, cTup, cLst, cSl, oNone, oSome, cCall, cCallF, cCallD, cMeth, noX', isL_list, isL_encP, tYesD, bnd_ok, bnd_exc, bnd_bad, lft_ok, lft_exc, lft_bad, isOk_ok, isOk_exc, isOk_bad, isD_int, isD_bool, isD_none, isD_str, isD_list, isD_tuple, isD_eP, isD_eT, isD_encP, isD_encT, allD, List.all_cons, List.all_nil, List.map_cons, List.map_nil, List.cons_append, List.nil_append, List.replicate_succ, List.replicate_zero, List.getElem?_cons_zero, List.getElem?_cons_succ, List.set_cons_zero, List.set_cons_succ, wipeD, sSeq, sSet, sAsg, sRet, sIf, sExpr, sNil, sRaise, sSetF, sApp, sAug, sAugL, sPar, sPar3, fLst, bNm, bTup, bCons, bNil, pNot, pIsi, isiT, tyN, pNeg, noX_ok, pLe_i, pLt_i, pGt_i, pGe_i, pAdd_i, pSub_i, pLen_l, pLen_t, pIx_t0, pIx_t1, pEq_i, pNe_i])
local macro_rules | `(tactic| walk_at "evx") => `(tactic| simp [szL, mBody, mBodyD, outP, outD, cVar, cC, cOp, cUn, cTest, cAndT, cOrT, cNotT, cAndV, cOrV, cIf, aNil, aCons, cTup, cLst, cSl, oNone, oSome, cCall, cCallF, cCallD, cMeth, noX', isL_list, isL_encP, tYesD, bnd_ok, bnd_exc, bnd_bad, lft_ok, lft_exc, lft_bad, isOk_ok, isOk_exc, isOk_bad, isD_int, isD_bool, isD_none, isD_str, isD_list, isD_tuple, isD_eP, isD_eT, isD_encP, isD_encT, allD, List.all_cons, List.all_nil, List.map_cons, List.map_nil, List.cons_append, List.nil_append, List.replicate_succ, List.replicate_zero, List.getElem?_cons_zero, List.getElem?_cons_succ, List.set_cons_zero, List.set_cons_succ, wipeD, sSeq, sSet, sAsg, sRet, sIf, sExpr, sNil, sRaise, sSetF, sApp, sAug, sAugL, sPar, sPar3, fLst, bNm, bTup, bCons, bNil, pNot, pIsi, isiT, tyN, pNeg, noX_ok, pLe_i, pLt_i, pGt_i, pGe_i, pAdd_i, pSub_i, pLen_l, pLen_t, pIx_t0, pIx_t1, pEq_i, pNe_i, *])
theorem mem_edges {C : List Pt} {e : Pt × Pt} : e ∈ edges C ↔ ∃ x y, C = x ++ e.1 :: e.2 :: y := by
  unfold edges
  constructor
  · intro h
    obtain ⟨k, hk, he⟩ := List.getElem_of_mem h
    have hl : k + 1 < C.length := by rw [List.length_zip, List.length_drop] at hk; omega
    obtain ⟨x, y, ec⟩ := split2 hl
    have h1 : e.1 = gt C k ∧ e.2 = gt C (k + 1) := by
      have h2 := List.getElem?_eq_getElem hk
      rw [he, List.getElem?_zip_eq_some (z := e)] at h2
      rw [gt_get (by omega), List.getElem?_drop, Nat.add_comm, gt_get hl] at h2
      exact ⟨(Option.some.inj h2.1).symm, (Option.some.inj h2.2).symm⟩
    exact ⟨x, y, by rw [h1.1, h1.2]; exact ec⟩
  · rintro ⟨x, y, ec⟩
    rw [ec]
    clear ec
    induction x with
    | nil => simp
    | cons a x ih =>
      cases x with
      | nil => simp
      | cons b x =>
        simp only [List.cons_append, List.drop_succ_cons, List.drop_zero, List.zip_cons_cons] at ih ⊢
        exact List.mem_cons_of_mem _ ih
/-- an edge over the place -/
theorem ins_edge {pl : Pt} (hd : 1 ≤ pl.2) : ∀ (C : List Pt) (a l : Pt), C.Pairwise Up → C.head? = some a → C.getLast? = some l → 2 ≤ C.length → a.1 * pl.2 ≤ pl.1 → pl.1 ≤ l.1 * pl.2 →
    ∃ x u v y, C = x ++ u :: v :: y ∧ ins pl (u, v) = true ∧ (u.1 < v.1 ∨ (u.1 = v.1 ∧ y = []))
  | [], _, _, _, h, _, _, _, _ => by cases h
  | [_], _, _, _, _, _, h, _, _ => by simp at h
  | a :: b :: r, a', l, hp, h1, h2, _, h3, h4 => by
    injection h1 with h1
    subst h1
    have hp' := List.pairwise_cons.mp hp
    have hab : Up a b := hp'.1 b (by simp)
    have hx := hab.x
    by_cases c : pl.1 ≤ b.1 * pl.2 ∧ a.1 < b.1
    · exact ⟨[], a, b, r, rfl, by unfold ins; rw [decide_eq_true h3, decide_eq_true c.1]; rfl, .inl c.2⟩
    · have hb : b.1 * pl.2 ≤ pl.1 ∨ (a.1 = b.1) := by
        by_cases z : a.1 = b.1
        · exact .inr z
        · left
          have : a.1 < b.1 := by omega
          have : ¬ pl.1 ≤ b.1 * pl.2 := fun q => c ⟨q, this⟩
          omega
      have hb' : b.1 * pl.2 ≤ pl.1 := by
        rcases hb with z | z
        · exact z
        · rw [← z]; exact h3
      cases r with
      | nil =>
        have hl : l = b := by
          have : [a, b].getLast? = some b := rfl
          rw [this] at h2
          exact (Option.some.inj h2).symm
        subst hl
        refine ⟨[], a, l, [], rfl, by unfold ins; rw [decide_eq_true h3, decide_eq_true h4]; rfl, .inr ⟨?_, rfl⟩⟩
        by_cases z : a.1 = l.1
        · exact z
        · exact absurd ⟨h4, by omega⟩ c
      | cons c' r =>
        obtain ⟨x, u, v, y, e, i, w⟩ := ins_edge hd (b :: c' :: r) b l hp'.2 rfl (by rw [List.getLast?_cons_cons] at h2; exact h2) (by simp) hb' h4
        exact ⟨a :: x, u, v, y, by rw [e]; rfl, i, w⟩
/-- what is asked of the points -/
structure PtsOk (P : List Pt) : Prop where
  up : P.Pairwise Up
  hd : P.head? = some (0, 0)
  l2 : 2 ≤ P.length
  rng : ∀ p ∈ P, 0 ≤ p.1 ∧ p.1 ≤ 12 ∧ 0 ≤ p.2 ∧ p.2 ≤ 12
theorem PtsOk.ne {P : List Pt} (h : PtsOk P) : P ≠ [] := fun z => by have := h.l2; rw [z] at this; simp at this
theorem PtsOk.hull {P : List Pt} (h : PtsOk P) : Hull P (crn P) := crn_hull h.up h.ne
theorem CrvOk.ok {P : List Pt} (h : CrvOk P) : PtsOk P := ⟨h.up, h.hd, h.l2, h.rng⟩
theorem Ch.pw {Q : List Pt} {st : List Pt} (h : Ch Q st) : st.Pairwise fun b a => Up a b := by
  induction h with
  | one h m => simp
  | two c m u h ih =>
    refine List.pairwise_cons.mpr ⟨fun x hx => ?_, ih⟩
    simp only [List.mem_cons, List.not_mem_nil, or_false] at hx
    rw [hx]; exact u
  | more k m u h t ih =>
    refine List.pairwise_cons.mpr ⟨fun x hx => ?_, ih⟩
    rcases List.mem_cons.mp hx with e | e
    · rw [e]; exact u
    · exact ((List.pairwise_cons.mp ih).1 x e).trans u
theorem Hull.up {P C : List Pt} (h : Hull P C) : C.Pairwise Up := by
  have := h.ch.pw
  rwa [List.pairwise_reverse] at this
theorem Hull.l2 {P C : List Pt} (h : Hull P C) (k : PtsOk P) : 2 ≤ C.length := by
  obtain ⟨l, hl⟩ : ∃ l, P.getLast? = some l := by
    cases e : P.getLast? with
    | none => rw [List.getLast?_eq_none_iff] at e; exact absurd e k.ne
    | some l => exact ⟨l, rfl⟩
  have h1 := h.hd.trans k.hd
  have h2 := h.lst.trans hl
  match C, h1, h2 with
  | [a], h1, h2 =>
    have e : l = (0, 0) := by
      have e1 := Option.some.inj h1
      have e2 := Option.some.inj h2
      rw [← e2]; exact e1
    -- the first and the last of a longer rising list are unlike
    exfalso
    have hP := k.l2
    match hq : P, hP with
    | p :: q :: r, _ =>
      have hup := k.up
      have e1 := Option.some.inj k.hd
      subst e1
      have hu := List.pairwise_cons.mp hup
      have hm : l ∈ q :: r := by
        rw [List.getLast?_cons_cons] at hl
        exact List.mem_of_getLast? hl
      exact (hu.1 l hm).2.2 e.symm
  | _ :: _ :: _, _, _ => simp
theorem edge_ok {P C : List Pt} (h : PtsOk P) (H : Hull P C) : ∀ e ∈ edges C, OkE e := fun e he => by
  obtain ⟨x, y, ec⟩ := mem_edges.mp he
  have u := (H.edge ec).1
  have h1 := h.rng e.1 (H.mem (by rw [ec]; simp))
  have h2 := h.rng e.2 (H.mem (by rw [ec]; simp))
  exact ⟨h1.1, h1.2.2.1, u.1, u.2.1, h2.2.1, h2.2.2.2⟩
theorem hofL_pos {pl : Pt} (h : OkPl pl) {E : List (Pt × Pt)} (hE : ∀ e ∈ E, OkE e) : ∀ x ∈ (0, 1) :: (E.filter (ins pl)).map (cand pl), 0 < x.2 := fun x hx => by
  rcases List.mem_cons.mp hx with e | e
  · rw [e]; exact Int.one_pos
  · obtain ⟨f, hf, rfl⟩ := List.mem_map.mp e
    have := List.mem_filter.mp hf
    exact (cand_nm h (hE f this.1) this.2).2.2.1
theorem hof_ge {pl : Pt} (h : OkPl pl) {C : List Pt} (hE : ∀ e ∈ edges C, OkE e) {e : Pt × Pt} (he : e ∈ edges C) (hi : ins pl e = true) : LeQ (cand pl e) (hof C pl) :=
  (mxQ_spec (hofL_pos h hE)).2 _ (List.mem_cons_of_mem _ (List.mem_map.mpr ⟨e, List.mem_filter.mpr ⟨he, hi⟩, rfl⟩))
theorem hof_nm {pl : Pt} (h : OkPl pl) {C : List Pt} (hE : ∀ e ∈ edges C, OkE e) : Nm (hof C pl) := hofL_nm h _ hE
/-- the place lies in the square -/
theorem place_edge {P C : List Pt} (h : PtsOk P) (H : Hull P C) {pl l : Pt} (ok : OkPl pl) (hl : P.getLast? = some l) (hN : pl.1 ≤ l.1 * pl.2) : ∃ u v, (u, v) ∈ edges C ∧ ins pl (u, v) = true ∧ (u.1 < v.1 ∨ (u.1 = v.1 ∧ v = l)) := by
  obtain ⟨x, u, v, y, e, i, w⟩ := ins_edge ok.d C (0, 0) l H.up (H.hd.trans h.hd) (H.lst.trans hl) (H.l2 h) (by have := ok.n; simp; exact this) hN
  refine ⟨u, v, mem_edges.mpr ⟨x, y, e⟩, i, ?_⟩
  rcases w with w | ⟨w1, w2⟩
  · exact .inl w
  · refine .inr ⟨w1, ?_⟩
    have := H.lst.trans hl
    rw [e, w2, List.getLast?_append] at this
    exact Option.some.inj this
theorem cand_wide {pl : Pt} {u v : Pt} (w : u.1 < v.1) : cand pl (u, v) = lowQ (chN pl u v) (chD pl u v) := by
  unfold cand
  rw [if_neg (by show ¬ v.1 - u.1 = 0; omega)]
theorem chD_pos {pl : Pt} (ok : OkPl pl) {u v : Pt} (w : u.1 < v.1) : 0 < chD pl u v := Int.mul_pos (by omega) (by have := ok.d; omega)
theorem ins_iff {pl u v : Pt} : ins pl (u, v) = true ↔ u.1 * pl.2 ≤ pl.1 ∧ pl.1 ≤ v.1 * pl.2 := by
  unfold ins
  rw [Bool.and_eq_true, decide_eq_true_eq, decide_eq_true_eq]
/-- a point at or before the place is no higher -/
theorem hof_point {P C : List Pt} (h : PtsOk P) (H : Hull P C) {pl l p : Pt} (ok : OkPl pl) (hl : P.getLast? = some l) (hN : pl.1 ≤ l.1 * pl.2) (hp : p ∈ P) (hx : p.1 * pl.2 ≤ pl.1) : LeQ (p.2, 1) (hof C pl) := by
  obtain ⟨u, v, he, hi, w⟩ := place_edge h H ok hl hN
  have hE := edge_ok h H
  have hge := hof_ge ok hE he hi
  have hpos := (hof_nm ok hE).2.2.1
  have hcp := (cand_nm ok (hE _ he) hi).2.2.1
  refine LeQ.trans Int.one_pos hcp hpos ?_ hge
  rcases w with w | ⟨w1, w2⟩
  · rw [cand_wide w, LeQ.low' (chD_pos ok w)]
    obtain ⟨x, y, ec⟩ := mem_edges.mp he
    obtain ⟨hu, ht⟩ := H.edge ec
    have t := ht p hp
    have hD := ok.d
    have hv := hu.y
    have k1 := Int.mul_le_mul_of_nonneg_right (show (v.1 - u.1) * (p.2 - u.2) ≤ (v.2 - u.2) * (p.1 - u.1) by unfold turn at t; dsimp only at t; omega) (by omega : (0 : Int) ≤ pl.2)
    have k2 := Int.mul_le_mul_of_nonneg_left (show p.1 * pl.2 - u.1 * pl.2 ≤ pl.1 - u.1 * pl.2 by omega) hv
    unfold LeQ chN chD
    dsimp only at k1 k2 ⊢
    grind
  · unfold cand
    rw [if_pos (by show v.1 - u.1 = 0; omega)]
    have := pw_last h.up hl p hp
    rw [← w2] at this
    have := this.y
    show p.2 * 1 ≤ v.2 * 1
    omega
/-- a line between two points is no higher -/
theorem hof_chord {P C : List Pt} (h : PtsOk P) (H : Hull P C) {pl l p q : Pt} (ok : OkPl pl) (hl : P.getLast? = some l) (hN : pl.1 ≤ l.1 * pl.2) (hp : p ∈ P) (hq : q ∈ P) (h1 : p.1 * pl.2 < pl.1) (h2 : pl.1 < q.1 * pl.2) : p.1 < q.1 ∧ LeQ (lowQ (chN pl p q) (chD pl p q)) (hof C pl) := by
  obtain ⟨u, v, he, hi, w⟩ := place_edge h H ok hl hN
  have hE := edge_ok h H
  have hge := hof_ge ok hE he hi
  have hpos := (hof_nm ok hE).2.2.1
  have hcp := (cand_nm ok (hE _ he) hi).2.2.1
  have hD := ok.d
  have hpq : p.1 < q.1 := by
    have : p.1 * pl.2 < q.1 * pl.2 := by omega
    exact Int.lt_of_mul_lt_mul_right this (by omega)
  have hd := chD_pos ok hpq
  refine ⟨hpq, LeQ.trans (lowQ_low hd).1 hcp hpos ?_ hge⟩
  rw [LeQ.low hd]
  rcases w with w | ⟨w1, w2⟩
  · rw [cand_wide w, LeQ.low' (chD_pos ok w)]
    obtain ⟨x, y, ec⟩ := mem_edges.mp he
    obtain ⟨hu, ht⟩ := H.edge ec
    have t1 := ht p hp
    have t2 := ht q hq
    unfold turn at t1 t2
    dsimp only at t1 t2
    have k1 := Int.mul_le_mul_of_nonneg_right (show (v.1 - u.1) * (p.2 - u.2) ≤ (v.2 - u.2) * (p.1 - u.1) by omega) (by omega : (0 : Int) ≤ q.1 * pl.2 - pl.1)
    have k2 := Int.mul_le_mul_of_nonneg_right (show (v.1 - u.1) * (q.2 - u.2) ≤ (v.2 - u.2) * (q.1 - u.1) by omega) (by omega : (0 : Int) ≤ pl.1 - p.1 * pl.2)
    have k3 := Int.mul_le_mul_of_nonneg_right (Int.add_le_add k1 k2) (by omega : (0 : Int) ≤ pl.2)
    unfold LeQ chN chD
    dsimp only
    grind
  · exfalso
    have hi' := ins_iff.mp hi
    have := (pw_last h.up hl q hq).x
    rw [← w2] at this
    have h3 := Int.mul_le_mul_of_nonneg_right (show q.1 ≤ v.1 by omega) (by omega : (0 : Int) ≤ pl.2)
    rw [w1] at hi'
    omega
end DL

/-! M9: means, best_true, gain -/
namespace DL
open PySem PySem.Spec PyProof.Rows L2
local macro_rules | `(tactic| walk_at "ev") => `(tactic| simp only [szL, Nat.reduceLeDiff, mBody, mBodyD, outP, outD, cVar, cC, cOp, cUn, cTest, cAndT, cOrT, cNotT, cAndV, cOrV, cIf, aNil, aCons, cTup, cLst, cSl, oNone, oSome, cCall, cCallF, cCallD, cMeth, noX', isL_list, isL_encP, tYesD, bnd_ok, bnd_exc, bnd_bad, lft_ok, lft_exc, lft_bad, isOk_ok, isOk_exc, isOk_bad, isD_int, isD_bool, isD_none, isD_str, isD_list, isD_tuple, isD_eP, isD_eT, isD_encP, isD_encT, allD, List.all_cons, List.all_nil, Bool.and_self, Bool.and_true, Bool.true_and, if_true, if_false, Bool.false_eq_true, ite_true, ite_false, reduceIte, List.length_cons, List.length_nil, List.map_cons, List.map_nil, List.cons_append, List.nil_append, List.replicate_succ, List.replicate_zero, List.getElem?_cons_zero, List.getElem?_cons_succ, List.set_cons_zero, List.set_cons_succ, wipeD, sSeq, sSet, sAsg, sRet, sIf, sExpr, sNil, sRaise, sSetF, sApp, sAug, sAugL, sPar, sPar3, fLst, bNm, bTup, bCons, bNil, pNot, pIsi, isiT, tyN, pNeg, Nat.reduceAdd, decide_true, decide_false, Bool.not_true, Bool.not_false, noX_ok, pLe_i, pLt_i, pGt_i, pGe_i, pAdd_i, pSub_i, pLen_l, pLen_t, pIx_t0, pIx_t1, pEq_i, pNe_i])
local macro_rules | `(tactic| walk_at "evs") => `(tactic| simp [szL, mBody, mBodyD, outP, outD, cVar, cC, cOp, cUn, cTest, cAndT, cOrT, cNotT, cAndV, cOrV, cIf, aNil, aCons, cTup, cLst, cSl, oNone, oSome, cCall, cCallF, cCallD, cMeth, noX', isL_list, isL_encP, tYesD, bnd_ok, bnd_exc, bnd_bad, lft_ok, lft_exc, lft_bad, isOk_ok, isOk_exc, isOk_bad, isD_int, isD_bool, isD_none, isD_str, isD_list, isD_tuple, isD_eP, isD_eT, isD_encP, isD_encT, allD, List.all_cons, List.all_nil, List.map_cons, List.map_nil, List.cons_append, List.nil_append, List.replicate_succ, List.replicate_zero, List.getElem?_cons_zero, List.getElem?_cons_succ, List.set_cons_zero, List.set_cons_succ, wipeD, sSeq, sSet, sAsg, sRet, sIf, sExpr, sNil, sRaise, sSetF, sApp, sAug, sAugL, sPar, sPar3, fLst, bNm, bTup, bCons, bNil, pNot, pIsi, isiT, tyN, pNeg, noX_ok, pLe_i, pLt_i, pGt_i, pGe_i, pAdd_i, pSub_i, pLen_l, pLen_t, pIx_t0, pIx_t1, pEq_i, pNe_i])
local macro_rules | `(tactic| walk_at "evx") => `(tactic| simp [szL, mBody, mBodyD, outP, outD, cVar, cC, cOp, cUn, cTest, cAndT, cOrT, cNotT, cAndV, cOrV, cIf, aNil, aCons, cTup, cLst, cSl, oNone, oSome, cCall, cCallF, cCallD, cMeth, noX', isL_list, isL_encP, tYesD, bnd_ok, bnd_exc, bnd_bad, lft_ok, lft_exc, lft_bad, isOk_ok, isOk_exc, isOk_bad, isD_int, isD_bool, isD_none, isD_str, isD_list, isD_tuple, isD_eP, isD_eT, isD_encP, isD_encT, allD, List.all_cons, List.all_nil, List.map_cons, List.map_nil, List.cons_append, List.nil_append, List.replicate_succ, List.replicate_zero, List.getElem?_cons_zero, List.getElem?_cons_succ, List.set_cons_zero, List.set_cons_succ, wipeD, sSeq, sSet, sAsg, sRet, sIf, sExpr, sNil, sRaise, sSetF, sApp, sAug, sAugL, sPar, sPar3, fLst, bNm, bTup, bCons, bNil, pNot, pIsi, isiT, tyN, pNeg, noX_ok, pLe_i, pLt_i, pGt_i, pGe_i, pAdd_i, pSub_i, pLen_l, pLen_t, pIx_t0, pIx_t1, pEq_i, pNe_i, *])
theorem lowQ_den {n d : Int} (h : 0 < d) : (lowQ n d).2 ≤ d := Int.ediv_le_self _ (by omega)
theorem hof_den {pl : Pt} (h : OkPl pl) {C : List Pt} (hE : ∀ e ∈ edges C, OkE e) : (hof C pl).2 ≤ 12000 := by
  have := (mxQ_spec (hofL_pos h hE)).1
  rcases List.mem_cons.mp this with e | e
  · show (hofL (edges C) pl).2 ≤ _
    unfold hofL
    rw [e]; decide
  · obtain ⟨f, hf, e⟩ := List.mem_map.mp e
    show (hofL (edges C) pl).2 ≤ _
    unfold hofL
    rw [← e]
    have hm := List.mem_filter.mp hf
    unfold cand
    by_cases z : f.2.1 - f.1.1 = 0
    · rw [if_pos z]; show (1 : Int) ≤ 12000; decide
    · rw [if_neg z]
      have c2 := chD_bd h (hE f hm.1) z
      have := lowQ_den (n := chN pl f.1 f.2) c2.1
      omega
theorem m_is_mean_eq {pl : Pt} {most : Int} (hl : IsLow pl) (h0 : 0 ≤ pl.1) (h1 : pl.1 ≤ most * pl.2) (h2 : pl.2 ≤ 1000) (hm : 0 ≤ most ∧ most ≤ 1000) : m_is_mean [eP pl, .int most] = .ok (.bool true) := by
  have hp := hl.1
  refine mBody_of (ev_guard (s1 := ()) (ev_or_f (s' := ()) rfl (ev_or_f (s' := ()) rfl (ev_not (b := true) (ev_test (ev_callF (ev_aC (s2 := ()) (ev_op (s2 := ()) rfl rfl (eP_1 _)) rfl) ?_))))) (ret_of (ev_and (s1 := ()) (ev_callF (ev_aC (s2 := ()) (ev_op (s2 := ()) rfl rfl (eP_0 _)) (ev_aC (s1 := ()) (s2 := ()) rfl (ev_a1 (ev_op (s1 := ()) rfl (ev_op (s2 := ()) rfl rfl (eP_1 _)) (pMul_i (by omega)))))) ?_) (ev_op (s1 := ()) (ev_callF (ev_aC (s2 := ()) (ev_op (s2 := ()) rfl rfl (eP_0 _)) (ev_a1 (ev_op (s2 := ()) rfl rfl (eP_1 _)))) (m_common_eq _ _)) rfl ?_)) rfl))
  · rw [m_is_int_int, decide_eq_true (by omega), decide_eq_true h2]; rfl
  · rw [m_is_int_int, decide_eq_true h0, decide_eq_true h1]; rfl
  · rw [hl.2, pEq_i]; rfl
theorem m_check_mean_eq {pl : Pt} {most : Int} (hl : IsLow pl) (h0 : 0 ≤ pl.1) (h1 : pl.1 ≤ most * pl.2) (h2 : pl.2 ≤ 1000) (hm : 0 ≤ most ∧ most ≤ 1000) : m_check_mean [eP pl, .int most] = .ok .none := by
  unfold m_check_mean b_check_mean
  walk_at "ev"
  rw [m_is_mean_eq hl h0 h1 h2 hm]
  rfl
/-- a place over things -/
structure PlT (T : List Th) (pl : Pt) : Prop where
  low : IsLow pl
  n : 0 ≤ pl.1
  top : pl.1 ≤ fa T 0 * pl.2
  d : pl.2 ≤ 1000
theorem fa_le {T : List Th} (g : GoodT T) (t : Int) : fa T t ≤ 12 := by
  have := cnt_rng g t
  have h1 : 0 ≤ fa T t := this.1
  have h2 : 0 ≤ tr T t := this.2.1
  have h3 : fa T t + tr T t ≤ 12 := this.2.2
  omega
theorem tr_le {T : List Th} (g : GoodT T) (t : Int) : tr T t ≤ 12 := by
  have := cnt_rng g t
  have h1 : 0 ≤ fa T t := this.1
  have h2 : 0 ≤ tr T t := this.2.1
  have h3 : fa T t + tr T t ≤ 12 := this.2.2
  omega
theorem PlT.ok {T : List Th} (g : GoodT T) {pl : Pt} (h : PlT T pl) : OkPl pl := by
  have hd := h.low.1
  have h12 := fa_le g 0
  have h0 := fa_nn T 0
  have := mul_bd (a := fa T 0) (b := pl.2) (A := 12) (B := 1000) h0 h12 (by omega) h.d
  exact ⟨h.n, by have := h.top; omega, by omega, h.d⟩
theorem pts_pok {T : List Th} (g : GoodT T) : PtsOk (pts T) := (pts_ok g).ok
theorem sm_pts {T : List Th} (g : GoodT T) : ∀ p ∈ pts T, Sm p := fun p hp => by have := pts_rng g p hp; unfold Sm; omega
theorem pts_l1000 {T : List Th} (g : GoodT T) : (pts T).length ≤ 1000 := by
  have hpl := pts_len T
  have hsl := scs_len T
  have hg := g.l2
  omega
def hgt (T : List Th) (pl : Pt) : Pt := hof (crn (pts T)) pl
theorem m_best_true_eq {T : List Th} (g : GoodT T) {pl : Pt} (h : PlT T pl) : m_best_true [encT T, eP pl] = .ok (eP (hgt T pl)) := by
  have h12 := fa_le g 0
  have h0 := fa_nn T 0
  exact mBody_of (ev_check (ev_callF (s1 := ()) rfl (m_check_things_eq g)) (ev_check (ev_callF (s1 := ()) (ev_aC rfl (ev_a1 (ev_op (s1 := ()) (ev_callF rfl (m_counts_eq g.l1000 0)) rfl (eP_0 _)))) (m_check_mean_eq h.low h.n h.top h.d ⟨h0, by show fa T 0 ≤ _; omega⟩)) (ret_of (ev_callF (ev_aC (s2 := ()) (ev_callF (ev_a1 (ev_callF rfl (m_points_of_eq g.l64))) (m_corners_of_eq (sm_pts g) (pts_l1000 g))) (ev_a1 rfl)) (m_height_of_eq (h.ok g) (edge_ok (pts_pok g) (pts_pok g).hull))) rfl)))
theorem m_plus_eq {p q : Pt} (hp : B64 p) (hq : B64 q) (h1 : 0 < p.2) (h2 : 0 < q.2) (h3 : p.2 * q.2 < 1073741824) (h4 : p.2 < 1000000) : m_plus [eP p, eP q] = .ok (eP (lowQ (p.1 * q.2 + q.1 * p.2) (p.2 * q.2))) :=
  mBody_of (ret_of (ev_callF (ev_aC (s1 := ()) (s2 := ()) (ev_op (s1 := ()) (ev_op (s1 := ()) (ev_op (s2 := ()) rfl rfl (eP_0 _)) (ev_op (s2 := ()) rfl rfl (eP_1 _)) (pMul_i hp)) (ev_op (s1 := ()) (ev_op (s2 := ()) rfl rfl (eP_0 _)) (ev_op (s2 := ()) rfl rfl (eP_1 _)) (pMul_i hq)) (pAdd_i _ _)) (ev_a1 (ev_op (s1 := ()) (ev_op (s2 := ()) rfl rfl (eP_1 _)) (ev_op (s2 := ()) rfl rfl (eP_1 _)) (pMul_i (by omega))))) (m_lowest_eq (Int.mul_pos h1 h2) h3)) rfl)
theorem m__law_add_eq {p q : Pt} (hp : B64 p) (hq : B64 q) (h1 : 0 < p.2) (h2 : 0 < q.2) (h3 : p.2 * q.2 < 1073741824) (h4 : p.2 < 1000000) : m__law_add [eP p, eP q] = .ok (eP (lowQ (p.1 * q.2 + q.1 * p.2) (p.2 * q.2))) :=
  mBody_of (ret_of (ev_callF (ev_aC (s1 := ()) (s2 := ()) (ev_op (s1 := ()) (ev_op (s1 := ()) (ev_op (s2 := ()) rfl rfl (eP_0 _)) (ev_op (s2 := ()) rfl rfl (eP_1 _)) (pMul_i hp)) (ev_op (s1 := ()) (ev_op (s2 := ()) rfl rfl (eP_0 _)) (ev_op (s2 := ()) rfl rfl (eP_1 _)) (pMul_i hq)) (pAdd_i _ _)) (ev_a1 (ev_op (s1 := ()) (ev_op (s2 := ()) rfl rfl (eP_1 _)) (ev_op (s2 := ()) rfl rfl (eP_1 _)) (pMul_i (by omega))))) (m__law_low_eq (Int.mul_pos h1 h2) h3)) rfl)
/-! ### the greatest of a list -/
def mxI : List Int → Int
  | x :: r => maxL x r
  | [] => 0
theorem mxI_spec {l : List Int} (h : l ≠ []) : mxI l ∈ l ∧ ∀ y ∈ l, y ≤ mxI l := by
  cases l with
  | nil => exact absurd rfl h
  | cons x r =>
    have := maxL_ge r x
    refine ⟨?_, fun y hy => ?_⟩
    · show maxL x r ∈ _
      rcases this.2.2 with e | e
      · rw [e]; simp
      · exact List.mem_cons_of_mem _ e
    · show _ ≤ maxL x r
      rcases List.mem_cons.mp hy with e | e
      · rw [e]; exact this.1
      · exact this.2.1 y e
theorem pMax_l {l : List Int} (h : l ≠ []) : pMax [.list (l.map PyData.int)] = .ok (.int (mxI l)) := by
  cases l with
  | nil => exact absurd rfl h
  | cons x r => exact mxD_cons x r
def ysQ (P : List Pt) (pl : Pt) : List Int := (P.filter fun p => !ltQ pl (p.1, 1)).map (·.2)
theorem mem_ysQ {P : List Pt} {pl : Pt} {y : Int} : y ∈ ysQ P pl ↔ ∃ p ∈ P, p.1 * pl.2 ≤ pl.1 ∧ p.2 = y := by
  unfold ysQ ltQ
  simp only [List.mem_map, List.mem_filter, Bool.not_eq_true', decide_eq_false_iff_not, and_assoc, Int.mul_one, Int.not_lt]
theorem ysQ_ne {T : List Th} {pl : Pt} (h : 0 ≤ pl.1) : ysQ (pts T) pl ≠ [] := fun z => by
  have : (0 : Int) ∈ ysQ (pts T) pl := mem_ysQ.mpr ⟨(0, 0), by simp [pts], by simpa using h, rfl⟩
  rw [z] at this
  cases this
theorem m_gain_eq {T : List Th} (g : GoodT T) {pl : Pt} (h : PlT T pl) : m_gain [encT T, eP pl] = .ok (eP (lowQ ((hgt T pl).1 * 1 + (-(mxI (ysQ (pts T) pl))) * (hgt T pl).2) ((hgt T pl).2 * 1))) := by
  have h12 := fa_le g 0
  have h0 := fa_nn T 0
  have ok := h.ok g
  have hE := edge_ok (pts_pok g) (pts_pok g).hull
  have hn := hof_nm ok hE
  have hd := hof_den ok hE
  have hdp := hn.2.2.1
  have hms := mxI_spec (ysQ_ne (T := T) h.n)
  obtain ⟨p, hp, _, hpy⟩ := mem_ysQ.mp hms.1
  have hr := pts_rng g p hp
  have hpl1 := h.n
  have hpl2 := ok.n2
  refine mBody_of (ev_check (ev_callF (s1 := ()) rfl (m_check_things_eq g)) (ev_check (ev_callF (s1 := ()) (ev_aC rfl (ev_a1 (ev_op (s1 := ()) (ev_callF rfl (m_counts_eq g.l1000 0)) rfl (eP_0 _)))) (m_check_mean_eq h.low h.n h.top h.d ⟨h0, by show fa T 0 ≤ _; omega⟩)) (ev_let (s1 := ()) (ev_callF (ev_aC (s2 := ()) (ev_callF (ev_a1 (ev_callF rfl (m_points_of_eq g.l64))) (m_corners_of_eq (sm_pts g) (pts_l1000 g))) (ev_a1 rfl)) (m_height_of_eq ok hE)) (ev_let (s1 := ()) (ev_call (ev_a1 (cComp_pureI (pts T) eP (fun p => !ltQ pl (p.1, 1)) (·.2) ?_ (by have := pts_l1000 g; omega) ?_)) (pMax_l (ysQ_ne h.n))) (ret_of (ev_callF (ev_aC (s2 := ()) rfl (ev_a1 (ev_tup (ev_aC (s2 := ()) (ev_un (s1 := ()) rfl rfl) (ev_a1 rfl))))) (m_plus_eq (p := hgt T pl) (q := (-(mxI (ysQ (pts T) pl)), 1)) hn.b ?_ hdp Int.one_pos ?_ ?_)) rfl)))))
  · exact ev_iLst (ev_callF rfl (m_points_of_eq g.l64))
  · intro q hq
    have hq' := pts_rng g q hq
    exact ⟨_, rfl, ev_not (ev_test (ev_callF (ev_aC (s2 := ()) rfl (ev_a1 (ev_tup (ev_aC (s2 := ()) rfl (ev_a1 rfl))))) (m_less_eq (p := pl) (q := (q.1, 1)) (by unfold B64; omega) (by unfold B64; dsimp only; omega)))), fun _ => rfl⟩
  · unfold B64; dsimp only; omega
  · show (hof (crn (pts T)) pl).2 * 1 < _; omega
  · show (hof (crn (pts T)) pl).2 < _; omega
/-- the hull is no lower than a single threshold -/
theorem hgt_ge {T : List Th} (g : GoodT T) {pl : Pt} (h : PlT T pl) {p : Pt} (hp : p ∈ pts T) (hx : p.1 * pl.2 ≤ pl.1) : LeQ (p.2, 1) (hgt T pl) :=
  hof_point (pts_pok g) (pts_pok g).hull (h.ok g) (pts_last g) h.top hp hx
end DL

/-! N1: twice the area; things of a curve -/
namespace DL
open PySem PySem.Spec PyProof.Rows L2
local macro_rules | `(tactic| walk_at "ev") => `(tactic| simp only [szL, Nat.reduceLeDiff, mBody, mBodyD, outP, outD, cVar, cC, cOp, cUn, cTest, cAndT, cOrT, cNotT, cAndV, cOrV, cIf, aNil, aCons, cTup, cLst, cSl, oNone, oSome, cCall, cCallF, cCallD, cMeth, noX', isL_list, isL_encP, tYesD, bnd_ok, bnd_exc, bnd_bad, lft_ok, lft_exc, lft_bad, isOk_ok, isOk_exc, isOk_bad, isD_int, isD_bool, isD_none, isD_str, isD_list, isD_tuple, isD_eP, isD_eT, isD_encP, isD_encT, allD, List.all_cons, List.all_nil, Bool.and_self, Bool.and_true, Bool.true_and, if_true, if_false, Bool.false_eq_true, ite_true, ite_false, reduceIte, List.length_cons, List.length_nil, List.map_cons, List.map_nil, List.cons_append, List.nil_append, List.replicate_succ, List.replicate_zero, List.getElem?_cons_zero, List.getElem?_cons_succ, List.set_cons_zero, List.set_cons_succ, wipeD, sSeq, sSet, sAsg, sRet, sIf, sExpr, sNil, sRaise, sSetF, sApp, sAug, sAugL, sPar, sPar3, fLst, bNm, bTup, bCons, bNil, pNot, pIsi, isiT, tyN, pNeg, Nat.reduceAdd, decide_true, decide_false, Bool.not_true, Bool.not_false, noX_ok, pLe_i, pLt_i, pGt_i, pGe_i, pAdd_i, pSub_i, pLen_l, pLen_t, pIx_t0, pIx_t1, pEq_i, pNe_i])
local macro_rules | `(tactic| walk_at "evs") => `(tactic| simp [szL, mBody, mBodyD, outP, outD, cVar, cC, cOp, cUn, cTest, cAndT, cOrT, cNotT, cAndV, cOrV, cIf, aNil, aCons, cTup, cLst, cSl, oNone, oSome, cCall, cCallF, cCallD, cMeth, noX', isL_list, isL_encP, tYesD, bnd_ok, bnd_exc, bnd_bad, lft_ok, lft_exc, lft_bad, isOk_ok, isOk_exc, isOk_bad, isD_int, isD_bool, isD_none, isD_str, isD_list, isD_tuple, isD_eP, isD_eT, isD_encP, isD_encT, allD, List.all_cons, List.all_nil, List.map_cons, List.map_nil, List.cons_append, List.nil_append, List.replicate_succ, List.replicate_zero, List.getElem?_cons_zero, List.getElem?_cons_succ, List.set_cons_zero, List.set_cons_succ, wipeD, sSeq, sSet, sAsg, sRet, sIf, sExpr, sNil, sRaise, sSetF, sApp, sAug, sAugL, sPar, sPar3, fLst, bNm, bTup, bCons, bNil, pNot, pIsi, isiT, tyN, pNeg, noX_ok, pLe_i, pLt_i, pGt_i, pGe_i, pAdd_i, pSub_i, pLen_l, pLen_t, pIx_t0, pIx_t1, pEq_i, pNe_i])
local macro_rules | `(tactic| walk_at "evx") => `(tactic| simp [szL, mBody, mBodyD, outP, outD, cVar, cC, cOp, cUn, cTest, cAndT, cOrT, cNotT, cAndV, cOrV, cIf, aNil, aCons, cTup, cLst, cSl, oNone, oSome, cCall, cCallF, cCallD, cMeth, noX', isL_list, isL_encP, tYesD, bnd_ok, bnd_exc, bnd_bad, lft_ok, lft_exc, lft_bad, isOk_ok, isOk_exc, isOk_bad, isD_int, isD_bool, isD_none, isD_str, isD_list, isD_tuple, isD_eP, isD_eT, isD_encP, isD_encT, allD, List.all_cons, List.all_nil, List.map_cons, List.map_nil, List.cons_append, List.nil_append, List.replicate_succ, List.replicate_zero, List.getElem?_cons_zero, List.getElem?_cons_succ, List.set_cons_zero, List.set_cons_succ, wipeD, sSeq, sSet, sAsg, sRet, sIf, sExpr, sNil, sRaise, sSetF, sApp, sAug, sAugL, sPar, sPar3, fLst, bNm, bTup, bCons, bNil, pNot, pIsi, isiT, tyN, pNeg, noX_ok, pLe_i, pLt_i, pGt_i, pGe_i, pAdd_i, pSub_i, pLen_l, pLen_t, pIx_t0, pIx_t1, pEq_i, pNe_i, *])
theorem edges_len (C : List Pt) : (edges C).length = C.length - 1 := by
  unfold edges
  rw [List.length_zip, List.length_drop]; omega
theorem edges_rng (C : List Pt) : edges C = (List.range (C.length - 1)).map fun k => (gt C k, gt C (k + 1)) := by
  apply List.ext_getElem?
  intro i
  by_cases hi : i + 1 < C.length
  · rw [List.getElem?_map, List.getElem?_range (by omega)]
    unfold edges
    rw [List.getElem?_zip_eq_some (z := (gt C i, gt C (i + 1))) |>.mpr ⟨gt_get (by omega), by rw [List.getElem?_drop, Nat.add_comm]; exact gt_get hi⟩]
    rfl
  · rw [List.getElem?_eq_none (by rw [edges_len]; omega), List.getElem?_eq_none (by rw [List.length_map, List.length_range]; omega)]
def trap (e : Pt × Pt) : Int := (e.2.1 - e.1.1) * (e.1.2 + e.2.2)
def twL (E : List (Pt × Pt)) : Int := (E.map trap).sum
def twA (C : List Pt) : Int := twL (edges C)
theorem twL_more (E : List (Pt × Pt)) (e : Pt × Pt) : twL (E ++ [e]) = twL E + trap e := by
  unfold twL
  rw [List.map_append, List.sum_append]
  simp
theorem edges_sm {C : List Pt} (h : ∀ p ∈ C, Sm p) : ∀ e ∈ edges C, Sm e.1 ∧ Sm e.2 := fun e he => by
  obtain ⟨x, y, ec⟩ := mem_edges.mp he
  exact ⟨h e.1 (by rw [ec]; simp), h e.2 (by rw [ec]; simp)⟩
theorem m_double_area_eq {C : List Pt} (h : ∀ p ∈ C, Sm p) : m_double_area [encP C] = .ok (.int (twA C)) := by
  refine mBody_of ?_
  unfold b_double_area
  refine ev_let (s1 := ()) rfl ?_
  obtain ⟨ρ', s', e, i⟩ := sForGo_inv (d := Unit) (bd := bTup (bCons (bNm 2) (bCons (bNm 3) bNil))) (body := sAug 1 (cOp pMul (cOp pSub (cOp pIx (cVar 3) (cC (.int 0))) (cOp pIx (cVar 2) (cC (.int 0)))) (cOp pAdd (cOp pIx (cVar 2) (cC (.int 1))) (cOp pIx (cVar 3) (cC (.int 1)))))) (fun p : Pt × Pt => PyData.tuple [eP p.1, eP p.2])
    (fun pre ρ _ => ∃ a b, ρ = [some (encP C), some (.int (twL pre)), a, b]) (edges C) [] [some (encP C), some (.int 0), none, none] () ⟨_, _, rfl⟩ fun pre e q ρ s hpq hi => by
      obtain ⟨a, b, rfl⟩ := hi
      rw [List.nil_append] at hpq
      obtain ⟨h1, h2⟩ := edges_sm h e (by rw [hpq]; simp)
      refine ⟨[some (encP C), some (.int (twL pre)), some (eP e.1), some (eP e.2)], [some (encP C), some (.int (twL (pre ++ [e]))), some (eP e.1), some (eP e.2)], (), rfl, ?_, ⟨_, _, rfl⟩⟩
      have hm : (cOp pMul (cOp pSub (cOp pIx (cVar 3) (cC (.int 0))) (cOp pIx (cVar 2) (cC (.int 0)))) (cOp pAdd (cOp pIx (cVar 2) (cC (.int 1))) (cOp pIx (cVar 3) (cC (.int 1)))) [some (encP C), some (.int (twL pre)), some (eP e.1), some (eP e.2)] () : R (PD × Unit)) = .ok (.int (trap e), ()) :=
        ev_op (s1 := ()) (ev_op (s1 := ()) (ev_op (s2 := ()) rfl rfl (eP_0 _)) (ev_op (s2 := ()) rfl rfl (eP_0 _)) (pSub_i _ _)) (ev_op (s1 := ()) (ev_op (s2 := ()) rfl rfl (eP_1 _)) (ev_op (s2 := ()) rfl rfl (eP_1 _)) (pAdd_i _ _)) (pMul_i (by unfold Sm at h1 h2; omega))
      unfold sAug
      show bnd (cOp _ _ _ _ _) _ = _
      rw [hm, bnd_ok, twL_more]
      rfl
  obtain ⟨a, b, rfl⟩ := i
  exact ev_seq (ev_for (s' := ()) (zip_it C rfl) e) rfl
theorem m__law_twice_eq {C : List Pt} (h : ∀ p ∈ C, Sm p) (h1 : 1 ≤ C.length) (h2 : C.length ≤ 1000) : m__law_twice [encP C] = .ok (.int (twA C)) := by
  refine mBody_of ?_
  unfold b__law_twice
  refine ev_let (s1 := ()) rfl ?_
  obtain ⟨ρ', s', e, i⟩ := sForGo_inv (d := Unit) (bd := bNm 2) (body := sSeq (sAsg (bTup (bCons (bTup (bCons (bNm 3) (bCons (bNm 4) bNil))) (bCons (bTup (bCons (bNm 5) (bCons (bNm 6) bNil))) bNil))) (cTup (aCons (cOp pIx (cVar 0) (cVar 2)) (aCons (cOp pIx (cVar 0) (cOp pAdd (cVar 2) (cC (.int 1)))) aNil))))
      (sSet 1 (cOp pAdd (cVar 1) (cOp pMul (cOp pSub (cVar 5) (cVar 3)) (cOp pAdd (cVar 4) (cVar 6)))))) (fun (k : Nat) => PyData.int (k : Int))
    (fun pre ρ _ => ∃ a b c d f, ρ = [some (encP C), some (.int (twL (pre.map fun k => (gt C k, gt C (k + 1))))), a, b, c, d, f]) (List.range (C.length - 1)) [] [some (encP C), some (.int 0), none, none, none, none, none] () ⟨_, _, _, _, _, rfl⟩ fun pre k q ρ s hpq hi => by
      obtain ⟨a, b, c, d, f, rfl⟩ := hi
      rw [List.nil_append] at hpq
      have hk : k + 1 < C.length := by
        have : k ∈ List.range (C.length - 1) := by rw [hpq]; simp
        have := List.mem_range.mp this
        omega
      have g1 := h _ (gt_mem (C := C) (k := k) (by omega))
      have g2 := h _ (gt_mem (C := C) (k := k + 1) hk)
      refine ⟨_, [some (encP C), some (.int (twL ((pre ++ [k]).map fun k => (gt C k, gt C (k + 1))))), some (.int (k : Int)), some (.int (gt C k).1), some (.int (gt C k).2), some (.int (gt C (k + 1)).1), some (.int (gt C (k + 1)).2)], (), rfl, ?_, ⟨_, _, _, _, _, rfl⟩⟩
      refine ev_unp (s1 := ()) (ev_tup (ev_aC (s2 := ()) (ev_op (s1 := ()) rfl rfl (pIx_gt (by omega))) (ev_a1 (ev_op (s1 := ()) rfl (ev_op (s2 := ()) rfl rfl (pAdd_i _ _)) (pIx_gt hk))))) (ρ' := [some (encP C), some (.int (twL (pre.map fun k => (gt C k, gt C (k + 1))))), some (.int (k : Int)), some (.int (gt C k).1), some (.int (gt C k).2), some (.int (gt C (k + 1)).1), some (.int (gt C (k + 1)).2)]) rfl ?_
      rw [List.map_append, List.map_cons, List.map_nil, twL_more]
      exact ev_set (ev_op (s1 := ()) rfl (ev_op (s1 := ()) (ev_op (s1 := ()) rfl rfl (pSub_i _ _)) (ev_op (s1 := ()) rfl rfl (pAdd_i _ _)) (pMul_i (by unfold Sm at g1 g2; omega))) (pAdd_i _ _))
  obtain ⟨a, b, c, d, f, rfl⟩ := i
  refine ev_seq (ev_for (s' := ()) (iRg1_n (n := C.length - 1) (ev_op (s1 := ()) (ev_call (ev_a1 rfl) (len_encP C)) rfl (by rw [pSub_i]; congr 2; omega)) (by omega)) e) ?_
  unfold twA
  rw [edges_rng]
  rfl
/-! ### checks of curves -/
theorem m_check_points_eq {P : List Pt} (g : CrvOk P) : m_check_points [encP P] = .ok .none := by
  unfold m_check_points b_check_points
  walk_at "ev"
  rw [m_is_points_eq g]
  rfl
theorem CrvOk.sm {P : List Pt} (g : CrvOk P) : ∀ p ∈ P, Sm p := fun p hp => by have := g.rng p hp; unfold Sm; omega
theorem m_hull_of_eq {P : List Pt} (g : CrvOk P) : m_hull_of [encP P] = .ok (encP (crn P)) :=
  mBody_of (ev_check (ev_callF (s1 := ()) rfl (m_check_points_eq g)) (ret_of (ev_callF rfl (m_corners_of_eq g.sm (by have := g.l13; omega))) rfl))
theorem m_hull_height_eq {P : List Pt} (g : CrvOk P) {l pl : Pt} (hl : P.getLast? = some l) (h : IsLow pl) (h0 : 0 ≤ pl.1) (h1 : pl.1 ≤ l.1 * pl.2) (h2 : pl.2 ≤ 1000) : m_hull_height [encP P, eP pl] = .ok (eP (hof (crn P) pl)) := by
  have hr := g.rng l (List.mem_of_getLast? hl)
  have hb := mul_bd (a := l.1) (b := pl.2) (A := 12) (B := 1000) hr.1 hr.2.1 (by have := h.1; omega) h2
  have ok : OkPl pl := ⟨h0, by omega, by have := h.1; omega, h2⟩
  exact mBody_of (ev_check (ev_callF (s1 := ()) rfl (m_check_points_eq g)) (ev_guard (s1 := ()) (ev_not (b := true) (ev_test (ev_callF (ev_aC (s2 := ()) rfl (ev_a1 (ev_op (s1 := ()) (ev_op (s1 := ()) rfl rfl (pIx_last eP P l hl)) rfl (eP_0 _)))) (m_is_mean_eq h h0 h1 h2 ⟨hr.1, by omega⟩)))) (ret_of (ev_callF (ev_aC (s2 := ()) (ev_callF rfl (m_corners_of_eq g.sm (by have := g.l13; omega))) (ev_a1 rfl)) (m_height_of_eq ok (edge_ok g.ok g.ok.hull))) rfl)))
theorem crn_sm {P : List Pt} (h : PtsOk P) : ∀ p ∈ crn P, Sm p := fun p hp => by have := h.rng p (h.hull.mem hp); unfold Sm; omega
theorem m_waste_eq {T : List Th} (g : GoodT T) : m_waste [encT T] = .ok (.int (twA (crn (pts T)) - twA (pts T))) :=
  mBody_of (ev_check (ev_callF (s1 := ()) rfl (m_check_things_eq g)) (ev_let (s1 := ()) (ev_callF rfl (m_points_of_eq g.l64)) (ret_of (ev_op (s1 := ()) (ev_callF (ev_a1 (ev_callF rfl (m_corners_of_eq (sm_pts g) (pts_l1000 g)))) (m_double_area_eq (crn_sm (pts_pok g)))) (ev_callF rfl (m_double_area_eq (sm_pts g))) (pSub_i _ _)) rfl)))
theorem m_is_bent_eq {T : List Th} (g : GoodT T) : m_is_bent [encT T] = .ok (.bool (decide (twA (crn (pts T)) = twA (pts T)))) :=
  mBody_of (ev_check (ev_callF (s1 := ()) rfl (m_check_things_eq g)) (ev_let (s1 := ()) (ev_callF rfl (m_points_of_eq g.l64)) (ret_of (ev_op (s1 := ()) (ev_callF (ev_a1 (ev_callF rfl (m_corners_of_eq (sm_pts g) (pts_l1000 g)))) (m_double_area_eq (crn_sm (pts_pok g)))) (ev_callF rfl (m_double_area_eq (sm_pts g))) (pEq_i _ _)) rfl)))
/-! ### a hull is its own hull -/
theorem pop_id : ∀ (st : List Pt) (p : Pt), (∀ b a r, st = b :: a :: r → turn a b p < 0) → pop st p = st
  | [], _, _ => rfl
  | [_], _, _ => rfl
  | b :: a :: r, p, h => by
    have := h b a r rfl
    unfold pop
    rw [if_neg (by omega)]
theorem crn_snoc (P : List Pt) (p : Pt) : crn (P ++ [p]) = (pop (crn P).reverse p).reverse ++ [p] := by
  unfold crn
  rw [List.foldl_append, List.reverse_reverse]
  simp
theorem Ch.fix {Q : List Pt} {st : List Pt} (h : Ch Q st) : crn st.reverse = st.reverse := by
  induction h with
  | one h m => rfl
  | @two a b c m u h ih =>
    show crn [a, b] = _
    rfl
  | @more a b c r k m u h t ih =>
    rw [List.reverse_cons, crn_snoc, ih, List.reverse_reverse, pop_id]
    intro b' a' r' e
    injection e with e1 e2
    injection e2 with e2 e3
    subst e1; subst e2
    exact t
theorem Hull.fix {P C : List Pt} (h : Hull P C) : crn C = C := by
  have := h.ch.fix
  rwa [List.reverse_reverse] at this
theorem hull_crv {P : List Pt} (g : CrvOk P) : CrvOk (crn P) := by
  have H := g.ok.hull
  refine ⟨H.l2 g.ok, by have := crn_len P; have := g.l13; omega, H.hd.trans g.hd, fun p hp => g.rng p (H.mem hp), H.up, fun p hp => g.last p ?_⟩
  rw [← H.lst]; exact hp
end DL

/-! N2: things with a given curve -/
namespace DL
open PySem PySem.Spec PyProof.Rows L2
local macro_rules | `(tactic| walk_at "ev") => `(tactic| simp only [szL, Nat.reduceLeDiff, mBody, mBodyD, outP, outD, cVar, cC, cOp, cUn, cTest, cAndT, cOrT, cNotT, cAndV, cOrV, cIf, aNil, aCons, cTup, cLst, cSl, oNone, oSome, cCall, cCallF, cCallD, cMeth, noX', isL_list, isL_encP, tYesD, bnd_ok, bnd_exc, bnd_bad, lft_ok, lft_exc, lft_bad, isOk_ok, isOk_exc, isOk_bad, isD_int, isD_bool, isD_none, isD_str, isD_list, isD_tuple, isD_eP, isD_eT, isD_encP, isD_encT, allD, List.all_cons, List.all_nil, Bool.and_self, Bool.and_true, Bool.true_and, if_true, if_false, Bool.false_eq_true, ite_true, ite_false, reduceIte, List.length_cons, List.length_nil, List.map_cons, List.map_nil, List.cons_append, List.nil_append, List.replicate_succ, List.replicate_zero, List.getElem?_cons_zero, List.getElem?_cons_succ, List.set_cons_zero, List.set_cons_succ, wipeD, sSeq, sSet, sAsg, sRet, sIf, sExpr, sNil, sRaise, sSetF, sApp, sAug, sAugL, sPar, sPar3, fLst, bNm, bTup, bCons, bNil, pNot, pIsi, isiT, tyN, pNeg, Nat.reduceAdd, decide_true, decide_false, Bool.not_true, Bool.not_false, noX_ok, pLe_i, pLt_i, pGt_i, pGe_i, pAdd_i, pSub_i, pLen_l, pLen_t, pIx_t0, pIx_t1, pEq_i, pNe_i])
local macro_rules | `(tactic| walk_at "evs") => `(tactic| simp [szL, mBody, mBodyD, outP, outD, cVar, cC, cOp, cUn, cTest, cAndT, cOrT, cNotT, cAndV, cOrV, cIf, aNil, aCons, cTup, cLst, cSl, oNone, oSome, cCall, cCallF, cCallD, cMeth, noX', isL_list, isL_encP, tYesD, bnd_ok, bnd_exc, bnd_bad, lft_ok, lft_exc, lft_bad, isOk_ok, isOk_exc, isOk_bad, isD_int, isD_bool, isD_none, isD_str, isD_list, isD_tuple, isD_eP, isD_eT, isD_encP, isD_encT, allD, List.all_cons, List.all_nil, List.map_cons, List.map_nil, List.cons_append, List.nil_append, List.replicate_succ, List.replicate_zero, List.getElem?_cons_zero, List.getElem?_cons_succ, List.set_cons_zero, List.set_cons_succ, wipeD, sSeq, sSet, sAsg, sRet, sIf, sExpr, sNil, sRaise, sSetF, sApp, sAug, sAugL, sPar, sPar3, fLst, bNm, bTup, bCons, bNil, pNot, pIsi, isiT, tyN, pNeg, noX_ok, pLe_i, pLt_i, pGt_i, pGe_i, pAdd_i, pSub_i, pLen_l, pLen_t, pIx_t0, pIx_t1, pEq_i, pNe_i])
local macro_rules | `(tactic| walk_at "evx") => `(tactic| simp [szL, mBody, mBodyD, outP, outD, cVar, cC, cOp, cUn, cTest, cAndT, cOrT, cNotT, cAndV, cOrV, cIf, aNil, aCons, cTup, cLst, cSl, oNone, oSome, cCall, cCallF, cCallD, cMeth, noX', isL_list, isL_encP, tYesD, bnd_ok, bnd_exc, bnd_bad, lft_ok, lft_exc, lft_bad, isOk_ok, isOk_exc, isOk_bad, isD_int, isD_bool, isD_none, isD_str, isD_list, isD_tuple, isD_eP, isD_eT, isD_encP, isD_encT, allD, List.all_cons, List.all_nil, List.map_cons, List.map_nil, List.cons_append, List.nil_append, List.replicate_succ, List.replicate_zero, List.getElem?_cons_zero, List.getElem?_cons_succ, List.set_cons_zero, List.set_cons_succ, wipeD, sSeq, sSet, sAsg, sRet, sIf, sExpr, sNil, sRaise, sSetF, sApp, sAug, sAugL, sPar, sPar3, fLst, bNm, bTup, bCons, bNil, pNot, pIsi, isiT, tyN, pNeg, noX_ok, pLe_i, pLt_i, pGt_i, pGe_i, pAdd_i, pSub_i, pLen_l, pLen_t, pIx_t0, pIx_t1, pEq_i, pNe_i, *])
/-- the things of one step -/
def stp (e : Pt × Pt) (s : Int) : List Th := List.replicate (e.2.1 - e.1.1).toNat (s, false) ++ List.replicate (e.2.2 - e.1.2).toNat (s, true)
def tE : List (Pt × Pt) → List Th
  | [] => []
  | e :: E => stp e ((E.length : Int) + 1) ++ tE E
theorem tE_rng : ∀ E : List (Pt × Pt), tE E = ((List.range E.length).map fun k => stp (E.getD k ((0, 0), (0, 0))) ((E.length : Int) - (k : Int))).flatten
  | [] => rfl
  | e :: E => by
    rw [List.length_cons, List.range_succ_eq_map, List.map_cons, List.flatten_cons, List.map_map, tE, tE_rng E]
    have e2 : (List.range E.length).map (fun k => stp (E.getD k ((0, 0), (0, 0))) ((E.length : Int) - (k : Int))) = (List.range E.length).map ((fun (k : Nat) => stp ((e :: E).getD k ((0, 0), (0, 0))) (((E.length + 1 : Nat) : Int) - (k : Int))) ∘ Nat.succ) := by
      apply List.map_congr_left
      intro k _
      show stp _ _ = stp ((e :: E).getD (k + 1) _) _
      rw [List.getD_cons_succ]
      congr 1
      omega
    rw [e2]
    congr 1
def UpEd (e : Pt × Pt) : Prop := Up e.1 e.2
theorem mem_stp {e : Pt × Pt} {s : Int} {x : Th} (h : x ∈ stp e s) : x.1 = s := by
  unfold stp at h
  rcases List.mem_append.mp h with z | z
  · rw [List.eq_of_mem_replicate z]
  · rw [List.eq_of_mem_replicate z]
theorem stp_ne {e : Pt × Pt} (h : UpEd e) (s : Int) : ∃ x ∈ stp e s, x.1 = s := by
  unfold stp
  have h1 := h.x
  have h2 := h.y
  rcases h.nz with z | z
  · exact ⟨(s, false), List.mem_append_left _ (List.mem_replicate.mpr ⟨by omega, rfl⟩), rfl⟩
  · exact ⟨(s, true), List.mem_append_right _ (List.mem_replicate.mpr ⟨by omega, rfl⟩), rfl⟩
theorem tE_sc : ∀ (E : List (Pt × Pt)), (∀ e ∈ E, UpEd e) → ∀ t : Int, (∃ x ∈ tE E, x.1 = t) ↔ 1 ≤ t ∧ t ≤ E.length
  | [], _, t => by
    constructor
    · rintro ⟨x, h, _⟩; cases h
    · rintro ⟨h1, h2⟩; simp at h2; omega
  | e :: E, h, t => by
    have ih := tE_sc E (fun e he => h e (List.mem_cons_of_mem _ he)) t
    unfold tE
    rw [List.length_cons]
    constructor
    · rintro ⟨x, hx, rfl⟩
      rcases List.mem_append.mp hx with z | z
      · rw [mem_stp z]; omega
      · have := ih.mp ⟨x, z, rfl⟩; omega
    · rintro ⟨h1, h2⟩
      by_cases c : t ≤ E.length
      · obtain ⟨x, hx, e⟩ := ih.mpr ⟨h1, c⟩
        exact ⟨x, List.mem_append_right _ hx, e⟩
      · obtain ⟨x, hx, e⟩ := stp_ne (h e (by simp)) ((E.length : Int) + 1)
        exact ⟨x, List.mem_append_left _ hx, by omega⟩
theorem fa_rep (n : Nat) (s t : Int) (b : Bool) : fa (List.replicate n (s, b)) t = if (decide (t ≤ s) && !b) = true then (n : Int) else 0 := by
  unfold fa
  rw [List.filter_replicate]
  split
  · rw [List.length_replicate]
  · rfl
theorem tr_rep (n : Nat) (s t : Int) (b : Bool) : tr (List.replicate n (s, b)) t = if (decide (t ≤ s) && b) = true then (n : Int) else 0 := by
  unfold tr
  rw [List.filter_replicate]
  split
  · rw [List.length_replicate]
  · rfl
theorem cnt_stp {e : Pt × Pt} (h : UpEd e) {s t : Int} (hs : t ≤ s) : fa (stp e s) t = e.2.1 - e.1.1 ∧ tr (stp e s) t = e.2.2 - e.1.2 := by
  have h1 := h.x
  have h2 := h.y
  unfold stp
  rw [fa_app, tr_app, fa_rep, fa_rep, tr_rep, tr_rep]
  simp [hs]
  omega
theorem cnt_tE_top : ∀ (E : List (Pt × Pt)) (t : Int), (E.length : Int) < t → fa (tE E) t = 0 ∧ tr (tE E) t = 0
  | [], _, _ => ⟨rfl, rfl⟩
  | e :: E, t, h => by
    rw [List.length_cons] at h
    have ih := cnt_tE_top E t (by omega)
    unfold tE
    rw [fa_app, tr_app, ih.1, ih.2]
    unfold stp
    rw [fa_app, tr_app, fa_rep, fa_rep, tr_rep, tr_rep]
    have : ¬ t ≤ (E.length : Int) + 1 := by omega
    simp [this]
theorem edges_cons (a b : Pt) (r : List Pt) : edges (a :: b :: r) = (a, b) :: edges (b :: r) := rfl
/-- the counts of the things of a curve -/
theorem cnt_tE : ∀ (C : List Pt) (a : Pt), C.head? = some a → C.Pairwise Up → ∀ i, i + 1 < C.length → fa (tE (edges C)) (((C.length - 1 : Nat) : Int) - (i : Int)) = (gt C (i + 1)).1 - a.1 ∧ tr (tE (edges C)) (((C.length - 1 : Nat) : Int) - (i : Int)) = (gt C (i + 1)).2 - a.2
  | [], _, h, _, _, _ => by cases h
  | [_], _, _, _, _, h => by simp at h
  | a :: b :: r, a', h, hp, i, hi => by
    injection h with h
    subst h
    have hp' := List.pairwise_cons.mp hp
    have hab : UpEd (a, b) := hp'.1 b (by simp)
    have hl : ((edges (b :: r)).length : Int) = ((b :: r).length : Int) - 1 := by rw [edges_len]; simp
    rw [edges_cons]
    unfold tE
    rw [fa_app, tr_app]
    have hlen : (((a :: b :: r).length - 1 : Nat) : Int) = ((edges (b :: r)).length : Int) + 1 := by rw [hl]; simp
    rw [hlen]
    obtain ⟨s1, s2⟩ := cnt_stp hab (s := ((edges (b :: r)).length : Int) + 1) (t := ((edges (b :: r)).length : Int) + 1 - (i : Int)) (by omega)
    rw [s1, s2]
    cases i with
    | zero =>
      obtain ⟨z1, z2⟩ := cnt_tE_top (edges (b :: r)) (((edges (b :: r)).length : Int) + 1 - ((0 : Nat) : Int)) (by omega)
      rw [z1, z2]
      show b.1 - a.1 + 0 = b.1 - a.1 ∧ b.2 - a.2 + 0 = b.2 - a.2
      omega
    | succ i =>
      have ih := cnt_tE (b :: r) b rfl hp'.2 i (by simp only [List.length_cons] at hi ⊢; omega)
      have et : ((edges (b :: r)).length : Int) + 1 - ((i + 1 : Nat) : Int) = (((b :: r).length - 1 : Nat) : Int) - (i : Int) := by rw [hl]; simp; omega
      rw [et, ih.1, ih.2]
      show b.1 - a.1 + ((gt (b :: r) (i + 1)).1 - b.1) = (gt (b :: r) (i + 1)).1 - a.1 ∧ b.2 - a.2 + ((gt (b :: r) (i + 1)).2 - b.2) = (gt (b :: r) (i + 1)).2 - a.2
      omega
theorem edges_up {C : List Pt} (h : C.Pairwise Up) : ∀ e ∈ edges C, UpEd e := zip_tail_mem h
theorem scs_tE {C : List Pt} (h : C.Pairwise Up) : scs (tE (edges C)) = (List.range (C.length - 1)).map fun (i : Nat) => ((C.length - 1 : Nat) : Int) - (i : Int) := by
  have key : (scs (tE (edges C))).reverse = ((List.range (C.length - 1)).map fun (i : Nat) => ((C.length - 1 : Nat) : Int) - (i : Int)).reverse := by
    refine sorted_eq ?_ ?_ fun k => ?_
    · have := scs_gt (tE (edges C))
      rw [List.pairwise_reverse]
      exact this
    · rw [List.pairwise_reverse, List.pairwise_map]
      refine List.Pairwise.imp_of_mem ?_ List.pairwise_lt_range
      intro a b _ _ hab
      omega
    · rw [List.mem_reverse, List.mem_reverse, mem_scs, tE_sc _ (edges_up h), edges_len]
      simp only [List.mem_map, List.mem_range]
      constructor
      · rintro ⟨h1, h2⟩
        exact ⟨((C.length - 1 : Nat) - k).toNat, by omega, by omega⟩
      · rintro ⟨i, hi, rfl⟩
        omega
  have := congrArg List.reverse key
  rwa [List.reverse_reverse, List.reverse_reverse] at this
theorem pts_tE {C : List Pt} (h : C.Pairwise Up) (hd : C.head? = some (0, 0)) : pts (tE (edges C)) = C := by
  unfold pts
  rw [scs_tE h, List.map_map]
  cases C with
  | nil => cases hd
  | cons a r =>
    injection hd with hd
    subst hd
    congr 1
    apply List.ext_getElem?
    intro i
    by_cases hi : i < r.length
    · have hl : i + 1 < ((0, 0) :: r : List Pt).length := by simp only [List.length_cons]; omega
      rw [List.getElem?_map, List.getElem?_range (by simp only [List.length_cons]; omega)]
      obtain ⟨c1, c2⟩ := cnt_tE _ (0, 0) rfl h i hl
      have hg := gt_get hl
      rw [List.getElem?_cons_succ] at hg
      rw [hg]
      show some (cnt _ _) = some _
      congr 1
      refine Prod.ext ?_ ?_
      · show fa _ _ = _
        rw [c1]; simp
      · show tr _ _ = _
        rw [c2]; simp
    · rw [List.getElem?_eq_none (by rw [List.length_map, List.length_range]; simp only [List.length_cons]; omega), List.getElem?_eq_none (by omega)]
theorem stp_len {e : Pt × Pt} (h : UpEd e) (s : Int) : ((stp e s).length : Int) = (e.2.1 - e.1.1) + (e.2.2 - e.1.2) := by
  have h1 := h.x
  have h2 := h.y
  unfold stp
  rw [List.length_append, List.length_replicate, List.length_replicate]
  omega
theorem tE_len : ∀ (C : List Pt) (a l : Pt), C.head? = some a → C.getLast? = some l → C.Pairwise Up → ((tE (edges C)).length : Int) = (l.1 - a.1) + (l.2 - a.2)
  | [], _, _, h, _, _ => by cases h
  | [c], a, l, h, k, _ => by
    injection h with h
    injection k with k
    subst h
    subst k
    show (0 : Int) = (c.1 - c.1) + (c.2 - c.2)
    omega
  | a :: b :: r, a', l, h, k, hp => by
    injection h with h
    subst h
    have hp' := List.pairwise_cons.mp hp
    have ih := tE_len (b :: r) b l rfl (by rw [List.getLast?_cons_cons] at k; exact k) hp'.2
    rw [edges_cons]
    unfold tE
    rw [List.length_append]
    have := stp_len (e := (a, b)) (hp'.1 b (by simp)) (((edges (b :: r)).length : Int) + 1)
    dsimp only at this
    omega
theorem tE_good {C : List Pt} (g : CrvOk C) : GoodT (tE (edges C)) := by
  obtain ⟨l, hl⟩ : ∃ l, C.getLast? = some l := by
    cases e : C.getLast? with
    | none => rw [List.getLast?_eq_none_iff] at e; exact absurd e g.ok.ne
    | some l => exact ⟨l, rfl⟩
  have h1 := tE_len C (0, 0) l g.hd hl g.up
  have h2 := g.last l hl
  have h3 := g.l2
  have h4 := g.l13
  dsimp only at h1
  refine ⟨?_, by omega, fun x hx => ?_⟩
  · -- some thing at score 1
    obtain ⟨x, hx, _⟩ := (tE_sc (edges C) (edges_up g.up) 1).mpr ⟨by decide, by rw [edges_len]; omega⟩
    cases hq : tE (edges C) with
    | nil => rw [hq] at hx; cases hx
    | cons _ _ => simp
  · have := (tE_sc (edges C) (edges_up g.up) x.1).mp ⟨x, hx, rfl⟩
    rw [edges_len] at this
    omega
theorem pMul_rep (d : PD) (k : Int) (h : 0 ≤ k ∧ k ≤ 1000) : pMul (.list [d]) (.int k) = .ok (.list (List.replicate k.toNat d)) := by
  show (if (decide (-(2 ^ 63) ≤ k) && decide (k < 2 ^ 63) && decide ([d].length * k.toNat ≤ sizeLine)) = true then R.ok (PyData.list (List.replicate k.toNat [d]).flatten) else .bad) = _
  rw [decide_eq_true (by omega), decide_eq_true (by omega), decide_eq_true (by simp only [List.length_cons, List.length_nil, szL]; omega)]
  have : (List.replicate k.toNat [d]).flatten = List.replicate k.toNat d := by
    induction k.toNat with
    | zero => rfl
    | succ n ih => rw [List.replicate_succ, List.flatten_cons, ih, List.replicate_succ]; rfl
  rw [this]
  rfl
theorem m_things_with_eq {C : List Pt} (g : CrvOk C) : m_things_with [encP C] = .ok (encT (tE (edges C))) := by
  have h2 := g.l2
  have h13 := g.l13
  have gT := tE_good g
  let f : Nat → List Th := fun k => stp (gt C k, gt C (k + 1)) (((C.length - 1 : Nat) : Int) - (k : Int))
  have hft : tE (edges C) = ((List.range (C.length - 1)).map f).flatten := by
    rw [tE_rng, edges_len]
    congr 1
    apply List.map_congr_left
    intro k hk
    have hk' := List.mem_range.mp hk
    show stp _ _ = stp _ _
    congr 1
    rw [List.getD_eq_getElem?_getD, edges_rng, List.getElem?_map, List.getElem?_range hk']
    rfl
  refine mBody_of (ev_check (ev_callF (s1 := ()) rfl (m_check_points_eq g)) (ev_seq (s' := ()) (ρ' := [some (encP C), some (.list []), none, none, none, none]) rfl ?_))
  obtain ⟨ρ', s', e, i⟩ := sForGo_inv (d := Unit) (bd := bNm 2) (body := sSeq (sSet 3 (cOp pSub (cOp pSub (cCall pLen (aCons (cVar 0) aNil)) (cC (.int 1))) (cVar 2)))
      (sSeq (sPar 4 5 (aCons (cOp pSub (cOp pIx (cOp pIx (cVar 0) (cOp pAdd (cVar 2) (cC (.int 1)))) (cC (.int 0))) (cOp pIx (cOp pIx (cVar 0) (cVar 2)) (cC (.int 0)))) (aCons (cOp pSub (cOp pIx (cOp pIx (cVar 0) (cOp pAdd (cVar 2) (cC (.int 1)))) (cC (.int 1))) (cOp pIx (cOp pIx (cVar 0) (cVar 2)) (cC (.int 1)))) aNil)))
      (sAugL 1 (cOp pAdd (cOp pMul (cLst (aCons (cTup (aCons (cVar 3) (aCons (cC (.bool false)) aNil))) aNil)) (cVar 4)) (cOp pMul (cLst (aCons (cTup (aCons (cVar 3) (aCons (cC (.bool true)) aNil))) aNil)) (cVar 5)))))) (fun (k : Nat) => PyData.int (k : Int))
    (fun pre ρ _ => ∃ a b c d, ρ = [some (encP C), some (encT ((pre.map f).flatten)), a, b, c, d]) (List.range (C.length - 1)) [] [some (encP C), some (encT []), none, none, none, none] () ⟨_, _, _, _, rfl⟩ fun pre k q ρ s hpq hi => by
      obtain ⟨a, b, c, d, rfl⟩ := hi
      rw [List.nil_append] at hpq
      have hk : k + 1 < C.length := by
        have : k ∈ List.range (C.length - 1) := by rw [hpq]; simp
        have := List.mem_range.mp this
        omega
      have hup : UpEd (gt C k, gt C (k + 1)) := edges_up g.up _ (by rw [edges_rng]; exact List.mem_map.mpr ⟨k, List.mem_range.mpr (by omega), rfl⟩)
      have hx := hup.x
      have hy := hup.y
      dsimp only at hx hy
      have r1 := g.rng _ (gt_mem (C := C) (k := k) (by omega))
      have r2 := g.rng _ (gt_mem (C := C) (k := k + 1) hk)
      have hpl : ((pre.map f).flatten).length ≤ 1000 := by
        have : ((pre.map f).flatten).length ≤ (tE (edges C)).length := by
          rw [hft, hpq, List.map_append, List.flatten_append, List.length_append]
          omega
        have := gT.l2
        omega
      refine ⟨_, [some (encP C), some (encT (((pre ++ [k]).map f).flatten)), some (.int (k : Int)), some (.int (((C.length - 1 : Nat) : Int) - (k : Int))), some (.int ((gt C (k + 1)).1 - (gt C k).1)), some (.int ((gt C (k + 1)).2 - (gt C k).2))], (), rfl, ?_, ⟨_, _, _, _, rfl⟩⟩
      refine ev_let (s1 := ()) (v := .int (((C.length - 1 : Nat) : Int) - (k : Int))) (ev_op (s1 := ()) (ev_op (s1 := ()) (ev_call (ev_a1 rfl) (len_encP C)) rfl (pSub_i _ _)) rfl (by rw [pSub_i]; congr 2; omega)) ?_
      refine ev_seq (s' := ()) (ρ' := [some (encP C), some (encT ((pre.map f).flatten)), some (.int (k : Int)), some (.int (((C.length - 1 : Nat) : Int) - (k : Int))), some (.int ((gt C (k + 1)).1 - (gt C k).1)), some (.int ((gt C (k + 1)).2 - (gt C k).2))]) ?_ ?_
      · unfold sPar
        rw [ev_aC (s2 := ()) (ev_op (s1 := ()) (ev_op (s1 := ()) (ev_op (s1 := ()) rfl (ev_op (s2 := ()) rfl rfl (pAdd_i _ _)) (pIx_gt hk)) rfl (eP_0 _)) (ev_op (s1 := ()) (ev_op (s2 := ()) rfl rfl (pIx_gt (by omega))) rfl (eP_0 _)) (pSub_i _ _)) (ev_a1 (ev_op (s1 := ()) (ev_op (s1 := ()) (ev_op (s1 := ()) rfl (ev_op (s2 := ()) rfl rfl (pAdd_i _ _)) (pIx_gt hk)) rfl (eP_1 _)) (ev_op (s1 := ()) (ev_op (s2 := ()) rfl rfl (pIx_gt (by omega))) rfl (eP_1 _)) (pSub_i _ _)))]
        rfl
      · have hv : cOp pAdd (cOp pMul (cLst (aCons (cTup (aCons (cVar 3) (aCons (cC (.bool false)) aNil))) aNil)) (cVar 4)) (cOp pMul (cLst (aCons (cTup (aCons (cVar 3) (aCons (cC (.bool true)) aNil))) aNil)) (cVar 5)) [some (encP C), some (encT ((pre.map f).flatten)), some (.int (k : Int)), some (.int (((C.length - 1 : Nat) : Int) - (k : Int))), some (.int ((gt C (k + 1)).1 - (gt C k).1)), some (.int ((gt C (k + 1)).2 - (gt C k).2))] () = .ok (encT (f k), ()) := by
          refine ev_op (s1 := ()) (ev_op (s1 := ()) rfl rfl (pMul_rep (.tuple [.int (((C.length - 1 : Nat) : Int) - (k : Int)), .bool false]) _ ⟨hx, by omega⟩)) (ev_op (s1 := ()) rfl rfl (pMul_rep (.tuple [.int (((C.length - 1 : Nat) : Int) - (k : Int)), .bool true]) _ ⟨hy, by omega⟩)) ?_
          rw [pAdd_lists _ _ (by rw [List.length_replicate, List.length_replicate]; omega)]
          unfold encT
          show _ = R.ok (PyData.list ((stp _ _).map eT))
          unfold stp
          rw [List.map_append, List.map_replicate, List.map_replicate]
          rfl
        unfold sAugL
        show bnd (cOp _ _ _ _ _) _ = _
        rw [hv, bnd_ok]
        have hfl : (f k).length ≤ 1000 := by
          have := stp_len hup (((C.length - 1 : Nat) : Int) - (k : Int))
          dsimp only at this
          show (stp _ _).length ≤ _
          omega
        show (if (((pre.map f).flatten).map eT).length + ((f k).map eT).length ≤ sizeLine then R.ok (Fl.nx ([some (encP C), some (encT ((pre.map f).flatten)), some (.int (k : Int)), some (.int (((C.length - 1 : Nat) : Int) - (k : Int))), some (.int ((gt C (k + 1)).1 - (gt C k).1)), some (.int ((gt C (k + 1)).2 - (gt C k).2))].set 1 (some (.list (((pre.map f).flatten).map eT ++ (f k).map eT)))), ()) else .bad) = _
        rw [if_pos (by rw [List.length_map, List.length_map, szL]; omega), ← List.map_append]
        have : (((pre ++ [k]).map f).flatten) = (pre.map f).flatten ++ f k := by
          rw [List.map_append, List.flatten_append]; simp
        rw [this]
        rfl
  obtain ⟨a, b, c, d, rfl⟩ := i
  refine ev_seq (ev_for (s' := ()) (iRg1_n (n := C.length - 1) (ev_op (s1 := ()) (ev_call (ev_a1 rfl) (len_encP C)) rfl (by rw [pSub_i]; congr 2; omega)) (by omega)) e) ?_
  rw [hft]
  rfl
end DL

/-! N3: the law's heights -/
namespace DL
open PySem PySem.Spec PyProof.Rows L2
local macro_rules | `(tactic| walk_at "ev") => `(tactic| simp only [szL, Nat.reduceLeDiff, mBody, mBodyD, outP, outD, cVar, cC, cOp, cUn, cTest, cAndT, cOrT, cNotT, cAndV, cOrV, cIf, aNil, aCons, cTup, cLst, cSl, oNone, oSome, cCall, cCallF, cCallD, cMeth, noX', isL_list, isL_encP, tYesD, bnd_ok, bnd_exc, bnd_bad, lft_ok, lft_exc, lft_bad, isOk_ok, isOk_exc, isOk_bad, isD_int, isD_bool, isD_none, isD_str, isD_list, isD_tuple, isD_eP, isD_eT, isD_encP, isD_encT, allD, List.all_cons, List.all_nil, Bool.and_self, Bool.and_true, Bool.true_and, if_true, if_false, Bool.false_eq_true, ite_true, ite_false, reduceIte, List.length_cons, List.length_nil, List.map_cons, List.map_nil, List.cons_append, List.nil_append, List.replicate_succ, List.replicate_zero, List.getElem?_cons_zero, List.getElem?_cons_succ, List.set_cons_zero, List.set_cons_succ, wipeD, sSeq, sSet, sAsg, sRet, sIf, sExpr, sNil, sRaise, sSetF, sApp, sAug, sAugL, sPar, sPar3, fLst, bNm, bTup, bCons, bNil, pNot, pIsi, isiT, tyN, pNeg, Nat.reduceAdd, decide_true, decide_false, Bool.not_true, Bool.not_false, noX_ok, pLe_i, pLt_i, pGt_i, pGe_i, pAdd_i, pSub_i, pLen_l, pLen_t, pIx_t0, pIx_t1, pEq_i, pNe_i])
local macro_rules | `(tactic| walk_at "evs") => `(tactic| simp [szL, mBody, mBodyD, outP, outD, cVar, cC, cOp, cUn, cTest, cAndT, cOrT, cNotT, cAndV, cOrV, cIf, aNil, aCons, cTup, cLst, cSl, oNone, oSome, cCall, cCallF, cCallD, cMeth, noX', isL_list, isL_encP, tYesD, bnd_ok, bnd_exc, bnd_bad, lft_ok, lft_exc, lft_bad, isOk_ok, isOk_exc, isOk_bad, isD_int, isD_bool, isD_none, isD_str, isD_list, isD_tuple, isD_eP, isD_eT, isD_encP, isD_encT, allD, List.all_cons, List.all_nil, List.map_cons, List.map_nil, List.cons_append, List.nil_append, List.replicate_succ, List.replicate_zero, List.getElem?_cons_zero, List.getElem?_cons_succ, List.set_cons_zero, List.set_cons_succ, wipeD, sSeq, sSet, sAsg, sRet, sIf, sExpr, sNil, sRaise, sSetF, sApp, sAug, sAugL, sPar, sPar3, fLst, bNm, bTup, bCons, bNil, pNot, pIsi, isiT, tyN, pNeg, noX_ok, pLe_i, pLt_i, pGt_i, pGe_i, pAdd_i, pSub_i, pLen_l, pLen_t, pIx_t0, pIx_t1, pEq_i, pNe_i])
local macro_rules | `(tactic| walk_at "evx") => `(tactic| simp [szL, mBody, mBodyD, outP, outD, cVar, cC, cOp, cUn, cTest, cAndT, cOrT, cNotT, cAndV, cOrV, cIf, aNil, aCons, cTup, cLst, cSl, oNone, oSome, cCall, cCallF, cCallD, cMeth, noX', isL_list, isL_encP, tYesD, bnd_ok, bnd_exc, bnd_bad, lft_ok, lft_exc, lft_bad, isOk_ok, isOk_exc, isOk_bad, isD_int, isD_bool, isD_none, isD_str, isD_list, isD_tuple, isD_eP, isD_eT, isD_encP, isD_encT, allD, List.all_cons, List.all_nil, List.map_cons, List.map_nil, List.cons_append, List.nil_append, List.replicate_succ, List.replicate_zero, List.getElem?_cons_zero, List.getElem?_cons_succ, List.set_cons_zero, List.set_cons_succ, wipeD, sSeq, sSet, sAsg, sRet, sIf, sExpr, sNil, sRaise, sSetF, sApp, sAug, sAugL, sPar, sPar3, fLst, bNm, bTup, bCons, bNil, pNot, pIsi, isiT, tyN, pNeg, noX_ok, pLe_i, pLt_i, pGt_i, pGe_i, pAdd_i, pSub_i, pLen_l, pLen_t, pIx_t0, pIx_t1, pEq_i, pNe_i, *])
def strict (pl : Pt) (e : Pt × Pt) : Bool := decide (e.1.1 * pl.2 < pl.1) && decide (pl.1 < e.2.1 * pl.2)
def foldC (pl : Pt) (E : List (Pt × Pt)) (b : Pt) : Pt := ((E.filter (strict pl)).map (cand pl)).foldl mxQ b
def foldP (pl : Pt) (P : List Pt) (b : Pt) : Pt := ((P.filter fun p => decide (p.1 * pl.2 = pl.1)).map fun p => (p.2, (1 : Int))).foldl mxQ b
theorem foldC_more (pl : Pt) (E : List (Pt × Pt)) (e : Pt × Pt) (b : Pt) : foldC pl (E ++ [e]) b = if strict pl e = true then mxQ (foldC pl E b) (cand pl e) else foldC pl E b := by
  unfold foldC
  rw [List.filter_append]
  cases h : strict pl e with
  | true => rw [List.filter_cons_of_pos h]; simp
  | false => rw [List.filter_cons_of_neg (by simp [h])]; simp
theorem foldP_more (pl : Pt) (P : List Pt) (p : Pt) (b : Pt) : foldP pl (P ++ [p]) b = if p.1 * pl.2 = pl.1 then mxQ (foldP pl P b) (p.2, 1) else foldP pl P b := by
  unfold foldP
  rw [List.filter_append]
  by_cases h : p.1 * pl.2 = pl.1
  · rw [List.filter_cons_of_pos (by simpa using h), if_pos h]; simp
  · rw [List.filter_cons_of_neg (by simpa using h), if_neg h]; simp
theorem strict_iff {pl : Pt} {e : Pt × Pt} : strict pl e = true ↔ e.1.1 * pl.2 < pl.1 ∧ pl.1 < e.2.1 * pl.2 := by
  unfold strict
  rw [Bool.and_eq_true, decide_eq_true_eq, decide_eq_true_eq]
theorem strict_ins {pl : Pt} {e : Pt × Pt} (h : strict pl e = true) : ins pl e = true := by
  have := strict_iff.mp h
  exact ins_iff.mpr ⟨by omega, by omega⟩
theorem strict_wide {pl : Pt} (ok : OkPl pl) {e : Pt × Pt} (h : strict pl e = true) : e.1.1 < e.2.1 := by
  have := strict_iff.mp h
  exact Int.lt_of_mul_lt_mul_right (a := pl.2) (by omega) (by have := ok.d; omega)
theorem chain_lt {d : Type} (a b c : Env → d → R (PD × d)) (ρ : Env) (s : d) (x y z : Int) (ha : a ρ s = .ok (.int x, s)) (hb : b ρ s = .ok (.int y, s)) (hc : c ρ s = .ok (.int z, s)) : cChain pLt pLt a b c ρ s = .ok (.bool (decide (x < y) && decide (y < z)), s) := by
  unfold cChain
  rw [ha, bnd_ok, hb, bnd_ok, if_pos (show (isD (.int x) && isD (.int y)) = true from rfl), pLt_i]
  by_cases h : x < y
  · rw [decide_eq_true h]
    show bnd (c ρ s) _ = _
    rw [hc, bnd_ok, if_pos (show isD (.int z) = true from rfl), pLt_i]; rfl
  · rw [decide_eq_false h]; rfl
/-- one line tried -/
theorem chord_step {ρ : Env} {ia ib ic jd io : Nat} {pl best : Pt} {e : Pt × Pt} (ok : OkPl pl) (k : strict pl e = true → OkE e) (r : (0 ≤ e.1.1 ∧ e.1.1 ≤ 12 ∧ 0 ≤ e.1.2 ∧ e.1.2 ≤ 12) ∧ 0 ≤ e.2.1 ∧ e.2.1 ≤ 12 ∧ 0 ≤ e.2.2 ∧ e.2.2 ≤ 12) (hb : Nm best) (h1 : cVar 1 ρ () = .ok (eP pl, ())) (h2 : cVar 2 ρ () = .ok (eP best, ())) (ha : cVar ia ρ () = .ok (.int e.1.1, ())) (hb' : cVar ib ρ () = .ok (.int e.1.2, ())) (hc : cVar ic ρ () = .ok (.int e.2.1, ())) (hd : cVar jd ρ () = .ok (.int e.2.2, ()))
    (ho : ∀ x, cVar io (ρ.set io (some x)) () = .ok (x, ())) (ho2 : ∀ x, cVar 2 (ρ.set io (some x)) () = .ok (eP best, ())) :
    sIf (cTest (cChain pLt pLt (cOp pMul (cVar ia) (cOp pIx (cVar 1) (cC (.int 1)))) (cOp pIx (cVar 1) (cC (.int 0))) (cOp pMul (cVar ic) (cOp pIx (cVar 1) (cC (.int 1))))))
      (sSeq (sSet io (cCallF 2 m__law_low (aCons (cOp pAdd (cOp pMul (cOp pMul (cVar ib) (cOp pSub (cVar ic) (cVar ia))) (cOp pIx (cVar 1) (cC (.int 1)))) (cOp pMul (cOp pSub (cOp pIx (cVar 1) (cC (.int 0))) (cOp pMul (cVar ia) (cOp pIx (cVar 1) (cC (.int 1))))) (cOp pSub (cVar jd) (cVar ib)))) (aCons (cOp pMul (cOp pSub (cVar ic) (cVar ia)) (cOp pIx (cVar 1) (cC (.int 1)))) aNil))))
      (sSet 2 (cIf (cTest (cCallF 2 m__law_below (aCons (cVar 2) (aCons (cVar io) aNil)))) (cVar io) (cVar 2))))
      sNil ρ () = .ok (.nx (if strict pl e = true then (ρ.set io (some (eP (cand pl e)))).set 2 (some (eP (mxQ best (cand pl e)))) else ρ), ()) := by
  obtain ⟨⟨r1, r2, r3, r4⟩, r5, r6, r7, r8⟩ := r
  obtain ⟨n1, n2, d1, d2⟩ := ok
  have ok : OkPl pl := ⟨n1, n2, d1, d2⟩
  have b0 := mul_bd (a := e.1.1) (b := pl.2) (A := 12) (B := 1000) r1 r2 (by omega) d2
  have ht : cTest (cChain pLt pLt (cOp pMul (cVar ia) (cOp pIx (cVar 1) (cC (.int 1)))) (cOp pIx (cVar 1) (cC (.int 0))) (cOp pMul (cVar ic) (cOp pIx (cVar 1) (cC (.int 1))))) ρ () = .ok (strict pl e, ()) :=
    ev_test (chain_lt (d := Unit) _ _ _ _ () _ _ _ (ev_op (s1 := ()) ha (ev_op (s2 := ()) h1 rfl (eP_1 _)) (pMul_i (by omega))) (ev_op (s2 := ()) h1 rfl (eP_0 _)) (ev_op (s1 := ()) hc (ev_op (s2 := ()) h1 rfl (eP_1 _)) (pMul_i (by omega))))
  cases hi : strict pl e with
  | false => exact ev_if_f (by rw [ht, hi]) rfl
  | true =>
    have hk := k hi
    have hw := strict_wide ok hi
    have hcn := cand_nm ok hk (strict_ins hi)
    have z : ¬ e.2.1 - e.1.1 = 0 := by omega
    have c2 := chD_bd ok hk z
    have hce : cand pl e = lowQ (chN pl e.1 e.2) (chD pl e.1 e.2) := by unfold cand; rw [if_neg z]
    have b1 := mul_bd (a := e.1.2) (b := e.2.1 - e.1.1) (A := 12) (B := 12) r3 r4 (by omega) (by omega)
    refine ev_if_t (s' := ()) (by rw [ht, hi]) (ev_let (s1 := ()) (v := eP (cand pl e)) ?_ (ev_set (v := eP (mxQ best (cand pl e))) ?_))
    · rw [hce]
      refine ev_callF (ev_aC (s2 := ()) (ev_op (s1 := ()) (ev_op (s1 := ()) (ev_op (s1 := ()) hb' (ev_op (s1 := ()) hc ha (pSub_i _ _)) (pMul_i (by omega))) (ev_op (s2 := ()) h1 rfl (eP_1 _)) (pMul_i (by omega))) (ev_op (s1 := ()) (ev_op (s1 := ()) (ev_op (s2 := ()) h1 rfl (eP_0 _)) (ev_op (s1 := ()) ha (ev_op (s2 := ()) h1 rfl (eP_1 _)) (pMul_i (by omega))) (pSub_i _ _)) (ev_op (s1 := ()) hd hb' (pSub_i _ _)) (pMul_i (by omega))) (pAdd_i _ _)) (ev_a1 (ev_op (s1 := ()) (ev_op (s1 := ()) hc ha (pSub_i _ _)) (ev_op (s2 := ()) h1 rfl (eP_1 _)) (pMul_i (by omega))))) (m__law_low_eq (d := chD pl e.1 e.2) c2.1 (by omega))
    · unfold mxQ
      cases hl : ltQ best (cand pl e) with
      | true => exact cIf_t (s1 := ()) (ev_test (ev_callF (ev_aC (ho2 _) (ev_a1 (ho _))) (by rw [m__law_below_eq hb.b hcn.b, hl]))) (ho _)
      | false => exact cIf_f (s1 := ()) (ev_test (ev_callF (ev_aC (ho2 _) (ev_a1 (ho _))) (by rw [m__law_below_eq hb.b hcn.b, hl]))) (ho2 _)
theorem foldC_nm {pl : Pt} (ok : OkPl pl) : ∀ (E : List (Pt × Pt)) (b : Pt), Nm b → (∀ e ∈ E, strict pl e = true → OkE e) → Nm (foldC pl E b)
  | [], _, hb, _ => hb
  | e :: E, b, hb, h => by
    unfold foldC
    cases hi : strict pl e with
    | true =>
      rw [List.filter_cons_of_pos hi, List.map_cons, List.foldl_cons]
      exact foldC_nm ok E _ (mxQ_nm hb (cand_nm ok (h e (by simp) hi) (strict_ins hi))) fun x hx => h x (List.mem_cons_of_mem _ hx)
    | false =>
      rw [List.filter_cons_of_neg (by simp [hi])]
      exact foldC_nm ok E b hb fun x hx => h x (List.mem_cons_of_mem _ hx)
theorem foldP_nm {pl : Pt} : ∀ (P : List Pt) (b : Pt), Nm b → (∀ p ∈ P, 0 ≤ p.2 ∧ p.2 ≤ 12) → Nm (foldP pl P b)
  | [], _, hb, _ => hb
  | p :: P, b, hb, h => by
    have hp := h p (by simp)
    have hn : Nm (p.2, 1) := ⟨hp.1, by show p.2 ≤ _; omega, low1 _⟩
    unfold foldP
    by_cases hi : p.1 * pl.2 = pl.1
    · rw [List.filter_cons_of_pos (by simpa using hi), List.map_cons, List.foldl_cons]
      exact foldP_nm P _ (mxQ_nm hb hn) fun x hx => h x (List.mem_cons_of_mem _ hx)
    · rw [List.filter_cons_of_neg (by simpa using hi)]
      exact foldP_nm P b hb fun x hx => h x (List.mem_cons_of_mem _ hx)
def lhB (C : List Pt) (pl : Pt) : Pt := foldC pl (edges C) (foldP pl C (0, 1))
theorem nm01 : Nm (0, 1) := ⟨by decide, by decide, low1 0⟩
theorem okE_of {P : List Pt} (h : PtsOk P) {p q : Pt} (hp : p ∈ P) (hq : q ∈ P) (w : p.1 < q.1) : OkE (p, q) := by
  have r1 := h.rng p hp
  have r2 := h.rng q hq
  rcases pw_tot h.up p hp q hq with z | z
  · have := z.x; omega
  · exact ⟨r1.1, r1.2.2.1, z.1, z.2.1, r2.2.1, r2.2.2.2⟩
theorem m__law_height_eq {C : List Pt} (h : PtsOk C) (hl : C.length ≤ 1000) {pl : Pt} (ok : OkPl pl) : m__law_height [encP C, eP pl] = .ok (eP (lhB C pl)) := by
  refine mBody_of ?_
  unfold b__law_height
  refine ev_seq (s' := ()) (ρ' := [some (encP C), some (eP pl), some (eP (0, 1)), none, none, none, none, none, none]) rfl ?_
  obtain ⟨ρ', s', e, i⟩ := sForGo_inv (d := Unit) (bd := bTup (bCons (bNm 4) (bCons (bNm 5) bNil))) (body := (sIf (cTest (cOp pEq (cOp pMul (cVar 4) (cOp pIx (cVar 1) (cC (.int 1)))) (cOp pIx (cVar 1) (cC (.int 0)))))
      (sSet 2 (cIf (cTest (cCallF 2 m__law_below (aCons (cVar 2) (aCons (cTup (aCons (cVar 5) (aCons (cC (.int 1)) aNil))) aNil)))) (cTup (aCons (cVar 5) (aCons (cC (.int 1)) aNil))) (cVar 2)))
      sNil)) eP
    (fun pre ρ _ => ∃ a b, ρ = [some (encP C), some (eP pl), some (eP (foldP pl pre (0, 1))), none, a, b, none, none, none]) C [] [some (encP C), some (eP pl), some (eP (0, 1)), none, none, none, none, none, none] () ⟨_, _, rfl⟩ fun pre p q ρ s hpq hi => by
      obtain ⟨a, b, rfl⟩ := hi
      rw [List.nil_append] at hpq
      have hr := h.rng p (by rw [hpq]; simp)
      have hn := foldP_nm (pl := pl) pre (0, 1) nm01 fun x hx => by have := h.rng x (by rw [hpq]; exact List.mem_append_left _ hx); omega
      have hpn : Nm (p.2, 1) := ⟨hr.2.2.1, by show p.2 ≤ _; omega, low1 _⟩
      refine ⟨[some (encP C), some (eP pl), some (eP (foldP pl pre (0, 1))), none, some (.int p.1), some (.int p.2), none, none, none], [some (encP C), some (eP pl), some (eP (foldP pl (pre ++ [p]) (0, 1))), none, some (.int p.1), some (.int p.2), none, none, none], (), rfl, ?_, ⟨_, _, rfl⟩⟩
      have ht : cTest (cOp pEq (cOp pMul (cVar 4) (cOp pIx (cVar 1) (cC (.int 1)))) (cOp pIx (cVar 1) (cC (.int 0)))) [some (encP C), some (eP pl), some (eP (foldP pl pre (0, 1))), none, some (.int p.1), some (.int p.2), none, none, none] () = .ok (decide (p.1 * pl.2 = pl.1), ()) :=
        ev_test (ev_op (s1 := ()) (ev_op (s1 := ()) rfl (ev_op (s2 := ()) rfl rfl (eP_1 _)) (pMul_i (by omega))) (ev_op (s2 := ()) rfl rfl (eP_0 _)) (pEq_i _ _))
      rw [foldP_more]
      by_cases c : p.1 * pl.2 = pl.1
      · rw [if_pos c]
        refine ev_if_t (s' := ()) (by rw [ht, decide_eq_true c]) (ev_set (v := eP (mxQ (foldP pl pre (0, 1)) (p.2, 1))) ?_)
        unfold mxQ
        cases hlq : ltQ (foldP pl pre (0, 1)) (p.2, 1) with
        | true => exact cIf_t (s1 := ()) (ev_test (ev_callF (ev_aC (s2 := ()) rfl (ev_a1 (ev_tup (ev_aC (s2 := ()) rfl (ev_a1 rfl))))) (by rw [show PyData.tuple [.int p.2, .int 1] = eP (p.2, 1) from rfl, m__law_below_eq hn.b hpn.b, hlq]))) rfl
        | false => exact cIf_f (s1 := ()) (ev_test (ev_callF (ev_aC (s2 := ()) rfl (ev_a1 (ev_tup (ev_aC (s2 := ()) rfl (ev_a1 rfl))))) (by rw [show PyData.tuple [.int p.2, .int 1] = eP (p.2, 1) from rfl, m__law_below_eq hn.b hpn.b, hlq]))) rfl
      · rw [if_neg c]
        exact ev_if_f (s' := ()) (by rw [ht, decide_eq_false c]) rfl
  obtain ⟨a, b, rfl⟩ := i
  refine ev_seq (ev_for (s' := ()) rfl e) ?_
  rw [List.nil_append]
  have hn1 := foldP_nm (pl := pl) C (0, 1) nm01 fun x hx => by have := h.rng x hx; omega
  obtain ⟨B1, hB1⟩ : ∃ B, B = foldP pl C (0, 1) := ⟨_, rfl⟩
  rw [← hB1] at hn1 ⊢
  obtain ⟨ρ2, s2, e2, i2⟩ := sForGo_inv (d := Unit) (bd := bNm 3) (body := sSeq (sAsg (bTup (bCons (bTup (bCons (bNm 4) (bCons (bNm 5) bNil))) (bCons (bTup (bCons (bNm 7) (bCons (bNm 8) bNil))) bNil))) (cTup (aCons (cOp pIx (cVar 0) (cVar 3)) (aCons (cOp pIx (cVar 0) (cOp pAdd (cVar 3) (cC (.int 1)))) aNil))))
      (sIf (cTest (cChain pLt pLt (cOp pMul (cVar 4) (cOp pIx (cVar 1) (cC (.int 1)))) (cOp pIx (cVar 1) (cC (.int 0))) (cOp pMul (cVar 7) (cOp pIx (cVar 1) (cC (.int 1))))))
      (sSeq (sSet 6 (cCallF 2 m__law_low (aCons (cOp pAdd (cOp pMul (cOp pMul (cVar 5) (cOp pSub (cVar 7) (cVar 4))) (cOp pIx (cVar 1) (cC (.int 1)))) (cOp pMul (cOp pSub (cOp pIx (cVar 1) (cC (.int 0))) (cOp pMul (cVar 4) (cOp pIx (cVar 1) (cC (.int 1))))) (cOp pSub (cVar 8) (cVar 5)))) (aCons (cOp pMul (cOp pSub (cVar 7) (cVar 4)) (cOp pIx (cVar 1) (cC (.int 1)))) aNil))))
      (sSet 2 (cIf (cTest (cCallF 2 m__law_below (aCons (cVar 2) (aCons (cVar 6) aNil)))) (cVar 6) (cVar 2))))
      sNil)) (fun (k : Nat) => PyData.int (k : Int))
    (fun pre ρ _ => ∃ x3 x4 x5 x6 x7 x8, ρ = [some (encP C), some (eP pl), some (eP (foldC pl (pre.map fun k => (gt C k, gt C (k + 1))) B1)), x3, x4, x5, x6, x7, x8]) (List.range (C.length - 1)) [] [some (encP C), some (eP pl), some (eP B1), none, a, b, none, none, none] () ⟨_, _, _, _, _, _, rfl⟩ fun pre k q ρ s hpq hi => by
      obtain ⟨x3, x4, x5, x6, x7, x8, rfl⟩ := hi
      rw [List.nil_append] at hpq
      have hrk : ∀ j ∈ pre ++ k :: q, j + 1 < C.length := fun j hj => by
        rw [← hpq] at hj
        have := List.mem_range.mp hj
        omega
      have hk := hrk k (by simp)
      have hm1 := gt_mem (C := C) (k := k) (by omega)
      have hm2 := gt_mem (C := C) (k := k + 1) hk
      have hn := foldC_nm ok (pre.map fun k => (gt C k, gt C (k + 1))) B1 hn1 fun e he hse => by
        obtain ⟨j, hj, rfl⟩ := List.mem_map.mp he
        have hj' := hrk j (List.mem_append_left _ hj)
        exact okE_of h (gt_mem (by omega)) (gt_mem hj') (strict_wide ok hse)
      have cs := chord_step (ρ := [some (encP C), some (eP pl), some (eP (foldC pl (pre.map fun k => (gt C k, gt C (k + 1))) B1)), some (.int (k : Int)), some (.int (gt C k).1), some (.int (gt C k).2), x6, some (.int (gt C (k + 1)).1), some (.int (gt C (k + 1)).2)]) (ia := 4) (ib := 5) (ic := 7) (jd := 8) (io := 6) (e := (gt C k, gt C (k + 1))) ok (fun hse => okE_of h hm1 hm2 (strict_wide ok hse)) ⟨h.rng _ hm1, h.rng _ hm2⟩ hn rfl rfl rfl rfl rfl rfl (fun _ => rfl) (fun _ => rfl)
      cases hi : strict pl (gt C k, gt C (k + 1)) with
      | true =>
        rw [hi, if_pos rfl] at cs
        refine ⟨_, _, (), rfl, ev_unp (s1 := ()) (ev_tup (ev_aC (s2 := ()) (ev_op (s1 := ()) rfl rfl (pIx_gt (by omega))) (ev_a1 (ev_op (s1 := ()) rfl (ev_op (s2 := ()) rfl rfl (pAdd_i _ _)) (pIx_gt hk))))) rfl cs, ⟨some (.int (k : Int)), some (.int (gt C k).1), some (.int (gt C k).2), some (eP (cand pl (gt C k, gt C (k + 1)))), some (.int (gt C (k + 1)).1), some (.int (gt C (k + 1)).2), ?_⟩⟩
        rw [List.map_append, List.map_cons, List.map_nil, foldC_more, hi]
        rfl
      | false =>
        rw [hi, if_neg (by decide)] at cs
        refine ⟨_, _, (), rfl, ev_unp (s1 := ()) (ev_tup (ev_aC (s2 := ()) (ev_op (s1 := ()) rfl rfl (pIx_gt (by omega))) (ev_a1 (ev_op (s1 := ()) rfl (ev_op (s2 := ()) rfl rfl (pAdd_i _ _)) (pIx_gt hk))))) rfl cs, ⟨some (.int (k : Int)), some (.int (gt C k).1), some (.int (gt C k).2), x6, some (.int (gt C (k + 1)).1), some (.int (gt C (k + 1)).2), ?_⟩⟩
        rw [List.map_append, List.map_cons, List.map_nil, foldC_more, hi]
        rfl
  obtain ⟨x3, x4, x5, x6, x7, x8, rfl⟩ := i2
  refine ev_seq (ev_for (s' := ()) (iRg1_n (n := C.length - 1) (ev_op (s1 := ()) (ev_call (ev_a1 rfl) (len_encP C)) rfl (by rw [pSub_i]; congr 2; have := h.l2; omega)) (by omega)) e2) ?_
  unfold lhB
  rw [← hB1, edges_rng]
  rfl
theorem foldC_app (pl : Pt) (E F : List (Pt × Pt)) (b : Pt) : foldC pl (E ++ F) b = foldC pl F (foldC pl E b) := by
  unfold foldC
  rw [List.filter_append, List.map_append, List.foldl_append]
def prs (P : List Pt) : List (Pt × Pt) := (P.map fun a => P.map fun b => (a, b)).flatten
def ltB (P : List Pt) (pl : Pt) : Pt := foldC pl (prs P) (lhB P pl)
def topBody : Env → Unit → R (Fl × Unit) := (sIf (cTest (cChain pLt pLt (cOp pMul (cVar 3) (cOp pIx (cVar 1) (cC (.int 1)))) (cOp pIx (cVar 1) (cC (.int 0))) (cOp pMul (cVar 5) (cOp pIx (cVar 1) (cC (.int 1))))))
      (sSeq (sSet 7 (cCallF 2 m__law_low (aCons (cOp pAdd (cOp pMul (cOp pMul (cVar 4) (cOp pSub (cVar 5) (cVar 3))) (cOp pIx (cVar 1) (cC (.int 1)))) (cOp pMul (cOp pSub (cOp pIx (cVar 1) (cC (.int 0))) (cOp pMul (cVar 3) (cOp pIx (cVar 1) (cC (.int 1))))) (cOp pSub (cVar 6) (cVar 4)))) (aCons (cOp pMul (cOp pSub (cVar 5) (cVar 3)) (cOp pIx (cVar 1) (cC (.int 1)))) aNil))))
      (sSet 2 (cIf (cTest (cCallF 2 m__law_below (aCons (cVar 2) (aCons (cVar 7) aNil)))) (cVar 7) (cVar 2))))
      sNil)
theorem lhB_nm {C : List Pt} (h : PtsOk C) {pl : Pt} (ok : OkPl pl) : Nm (lhB C pl) :=
  foldC_nm ok _ _ (foldP_nm C (0, 1) nm01 fun x hx => by have := h.rng x hx; omega) fun e he hse => by
    obtain ⟨x, y, ec⟩ := mem_edges.mp he
    exact okE_of h (by rw [ec]; simp) (by rw [ec]; simp) (strict_wide ok hse)
theorem m__law_top_eq {P : List Pt} (h : PtsOk P) (hl : P.length ≤ 1000) {pl : Pt} (ok : OkPl pl) : m__law_top [encP P, eP pl] = .ok (eP (ltB P pl)) := by
  refine mBody_of ?_
  unfold b__law_top
  refine ev_let (s1 := ()) (ev_callF rfl (m__law_height_eq h hl ok)) ?_
  have hn0 := lhB_nm h ok
  have hmem : ∀ e ∈ prs P, e.1 ∈ P ∧ e.2 ∈ P := fun e he => by
    unfold prs at he
    rw [List.mem_flatten] at he
    obtain ⟨l, hl, he⟩ := he
    obtain ⟨a, ha, rfl⟩ := List.mem_map.mp hl
    obtain ⟨b, hb, rfl⟩ := List.mem_map.mp he
    exact ⟨ha, hb⟩
  have inner : ∀ (p : Pt), p ∈ P → ∀ (B : Pt), Nm B → ∀ x5 x6 x7, ∃ x5' x6' x7', sForGo (bTup (bCons (bNm 5) (bCons (bNm 6) bNil))) topBody (P.map eP) [some (encP P), some (eP pl), some (eP B), some (.int p.1), some (.int p.2), x5, x6, x7] () = .ok (.nx [some (encP P), some (eP pl), some (eP (foldC pl (P.map fun b => (p, b)) B)), some (.int p.1), some (.int p.2), x5', x6', x7'], ()) := fun p hp B hB x5 x6 x7 => by
    obtain ⟨ρ', s', e, i⟩ := sForGo_inv (d := Unit) (bd := bTup (bCons (bNm 5) (bCons (bNm 6) bNil))) (body := topBody) eP
      (fun pre ρ _ => ∃ x5 x6 x7, ρ = [some (encP P), some (eP pl), some (eP (foldC pl (pre.map fun b => (p, b)) B)), some (.int p.1), some (.int p.2), x5, x6, x7]) P [] [some (encP P), some (eP pl), some (eP B), some (.int p.1), some (.int p.2), x5, x6, x7] () ⟨_, _, _, rfl⟩ fun pre q r ρ s hpq hi => by
        obtain ⟨x5, x6, x7, rfl⟩ := hi
        rw [List.nil_append] at hpq
        have hq : q ∈ P := by rw [hpq]; simp
        have hn := foldC_nm ok (pre.map fun b => (p, b)) B hB fun e he hse => by
          obtain ⟨j, hj, rfl⟩ := List.mem_map.mp he
          exact okE_of h hp (by rw [hpq]; exact List.mem_append_left _ hj) (strict_wide ok hse)
        have cs := chord_step (ρ := [some (encP P), some (eP pl), some (eP (foldC pl (pre.map fun b => (p, b)) B)), some (.int p.1), some (.int p.2), some (.int q.1), some (.int q.2), x7]) (ia := 3) (ib := 4) (ic := 5) (jd := 6) (io := 7) (e := (p, q)) ok (fun hse => okE_of h hp hq (strict_wide ok hse)) ⟨h.rng _ hp, h.rng _ hq⟩ hn rfl rfl rfl rfl rfl rfl (fun _ => rfl) (fun _ => rfl)
        cases hi : strict pl (p, q) with
        | true =>
          rw [hi, if_pos rfl] at cs
          refine ⟨_, _, (), rfl, cs, ⟨some (.int q.1), some (.int q.2), some (eP (cand pl (p, q))), ?_⟩⟩
          rw [List.map_append, List.map_cons, List.map_nil, foldC_more, hi]
          rfl
        | false =>
          rw [hi, if_neg (by decide)] at cs
          refine ⟨_, _, (), rfl, cs, ⟨some (.int q.1), some (.int q.2), x7, ?_⟩⟩
          rw [List.map_append, List.map_cons, List.map_nil, foldC_more, hi]
          rfl
    obtain ⟨x5', x6', x7', rfl⟩ := i
    exact ⟨x5', x6', x7', e⟩
  obtain ⟨ρ', s', e, i⟩ := sForGo_inv (d := Unit) (bd := bTup (bCons (bNm 3) (bCons (bNm 4) bNil))) (body := sFor (iLst (cVar 0)) (bTup (bCons (bNm 5) (bCons (bNm 6) bNil))) topBody) eP
    (fun pre ρ _ => ∃ x3 x4 x5 x6 x7, ρ = [some (encP P), some (eP pl), some (eP (foldC pl ((pre.map fun a => P.map fun b => (a, b)).flatten) (lhB P pl))), x3, x4, x5, x6, x7]) P [] [some (encP P), some (eP pl), some (eP (lhB P pl)), none, none, none, none, none] () ⟨_, _, _, _, _, rfl⟩ fun pre p r ρ s hpq hi => by
      obtain ⟨x3, x4, x5, x6, x7, rfl⟩ := hi
      rw [List.nil_append] at hpq
      have hp : p ∈ P := by rw [hpq]; simp
      have hn := foldC_nm ok ((pre.map fun a => P.map fun b => (a, b)).flatten) (lhB P pl) hn0 fun e he hse => by
        have := hmem e (by
          unfold prs
          rw [List.mem_flatten] at he ⊢
          obtain ⟨l, hl, he⟩ := he
          obtain ⟨a, ha, rfl⟩ := List.mem_map.mp hl
          exact ⟨_, List.mem_map.mpr ⟨a, by rw [hpq]; exact List.mem_append_left _ ha, rfl⟩, he⟩)
        exact okE_of h this.1 this.2 (strict_wide ok hse)
      obtain ⟨x5', x6', x7', ein⟩ := inner p hp _ hn x5 x6 x7
      refine ⟨[some (encP P), some (eP pl), some (eP (foldC pl ((pre.map fun a => P.map fun b => (a, b)).flatten) (lhB P pl))), some (.int p.1), some (.int p.2), x5, x6, x7], _, (), rfl, ev_for (s' := ()) rfl ein, ⟨some (.int p.1), some (.int p.2), x5', x6', x7', ?_⟩⟩
      rw [List.map_append, List.flatten_append, foldC_app]
      simp
  obtain ⟨x3, x4, x5, x6, x7, rfl⟩ := i
  exact ev_seq (ev_for (s' := ()) rfl e) rfl
/-! ### they are the hull's heights -/
theorem mxQ_fold {L : List Pt} {b : Pt} (h : ∀ x ∈ b :: L, 0 < x.2) {m : Pt} (hm : 0 < m.2) (hle : ∀ x ∈ b :: L, LeQ x m) (hge : ∃ x ∈ b :: L, LeQ m x) : EqQ (L.foldl mxQ b) m := by
  have sp := mxQ_spec h
  refine (hle _ sp.1).anti ?_
  obtain ⟨x, hx, hmx⟩ := hge
  have hr : 0 < (L.foldl mxQ b).2 := h _ sp.1
  exact hmx.trans hm (h x hx) hr (sp.2 x hx)
/-- what the law's height runs over -/
def LH (C : List Pt) (pl : Pt) : List Pt := ((C.filter fun p => decide (p.1 * pl.2 = pl.1)).map fun p => (p.2, (1 : Int))) ++ ((edges C).filter (strict pl)).map (cand pl)
theorem lhB_LH (C : List Pt) (pl : Pt) : lhB C pl = (LH C pl).foldl mxQ (0, 1) := by
  unfold lhB foldC foldP LH
  rw [List.foldl_append]
theorem ltB_LH (P : List Pt) (pl : Pt) : ltB P pl = (LH P pl ++ ((prs P).filter (strict pl)).map (cand pl)).foldl mxQ (0, 1) := by
  unfold ltB
  rw [lhB_LH]
  unfold foldC
  rw [List.foldl_append]
/-- the height of an edge's end -/
theorem cand_end {pl : Pt} (ok : OkPl pl) {u v : Pt} (w : u.1 < v.1) (h : u.1 * pl.2 = pl.1) : LeQ (cand pl (u, v)) (u.2, 1) := by
  rw [cand_wide w, LeQ.low (chD_pos ok w)]
  unfold LeQ chN chD
  dsimp only
  rw [← h]
  grind
theorem cand_end2 {pl : Pt} (ok : OkPl pl) {u v : Pt} (w : u.1 < v.1) (h : v.1 * pl.2 = pl.1) : LeQ (cand pl (u, v)) (v.2, 1) := by
  rw [cand_wide w, LeQ.low (chD_pos ok w)]
  unfold LeQ chN chD
  dsimp only
  rw [← h]
  grind
/-- the hull's height is reached by what the law runs over -/
theorem hof_hit {P C : List Pt} (h : PtsOk P) (H : Hull P C) {pl : Pt} (ok : OkPl pl) : ∃ x ∈ (0, 1) :: LH C pl, LeQ (hof C pl) x := by
  have hE := edge_ok h H
  have := (mxQ_spec (hofL_pos ok hE)).1
  rcases List.mem_cons.mp this with e | e
  · refine ⟨(0, 1), by simp, ?_⟩
    show LeQ (hofL (edges C) pl) _
    unfold hofL
    rw [e]
    exact Int.le_refl _
  · obtain ⟨f, hf, e⟩ := List.mem_map.mp e
    have hm := List.mem_filter.mp hf
    obtain ⟨u, v⟩ := f
    have hi := ins_iff.mp hm.2
    obtain ⟨x, y, ec⟩ := mem_edges.mp hm.1
    have hu : u ∈ C := by rw [ec]; simp
    have hv : v ∈ C := by rw [ec]; simp
    have hup := (H.edge ec).1
    have hhof : hof C pl = cand pl (u, v) := by
      show hofL (edges C) pl = _
      unfold hofL
      exact e.symm
    rw [hhof]
    have pt : ∀ p ∈ C, p.1 * pl.2 = pl.1 → (p.2, (1 : Int)) ∈ (0, 1) :: LH C pl := fun p hp hx => by
      refine List.mem_cons_of_mem _ (List.mem_append_left _ (List.mem_map.mpr ⟨p, List.mem_filter.mpr ⟨hp, by simpa using hx⟩, rfl⟩))
    by_cases w : u.1 < v.1
    · by_cases c1 : u.1 * pl.2 = pl.1
      · exact ⟨_, pt u hu c1, cand_end ok w c1⟩
      · by_cases c2 : v.1 * pl.2 = pl.1
        · exact ⟨_, pt v hv c2, cand_end2 ok w c2⟩
        · refine ⟨cand pl (u, v), List.mem_cons_of_mem _ (List.mem_append_right _ (List.mem_map.mpr ⟨(u, v), List.mem_filter.mpr ⟨hm.1, strict_iff.mpr ⟨by dsimp only; omega, by dsimp only; omega⟩⟩, rfl⟩)), Int.le_refl _⟩
    · have hx := hup.x
      dsimp only at hx
      have hw : u.1 = v.1 := by omega
      refine ⟨(v.2, 1), pt v hv (by rw [hw] at hi; omega), ?_⟩
      unfold cand
      rw [if_pos (by dsimp only; omega)]
      exact Int.le_refl _
theorem LH_pos {P : List Pt} (h : PtsOk P) {pl : Pt} (ok : OkPl pl) : ∀ x ∈ (0, 1) :: LH P pl, 0 < x.2 := fun x hx => by
  rcases List.mem_cons.mp hx with e | e
  · rw [e]; exact Int.one_pos
  · rcases List.mem_append.mp e with e | e
    · obtain ⟨p, _, rfl⟩ := List.mem_map.mp e
      exact Int.one_pos
    · obtain ⟨f, hf, rfl⟩ := List.mem_map.mp e
      have hm := List.mem_filter.mp hf
      obtain ⟨x, y, ec⟩ := mem_edges.mp hm.1
      exact (cand_nm ok (okE_of h (by rw [ec]; simp) (by rw [ec]; simp) (strict_wide ok hm.2)) (strict_ins hm.2)).2.2.1
theorem mem_prs {P : List Pt} {e : Pt × Pt} (he : e ∈ prs P) : e.1 ∈ P ∧ e.2 ∈ P := by
  unfold prs at he
  rw [List.mem_flatten] at he
  obtain ⟨l, hl, he⟩ := he
  obtain ⟨a, ha, rfl⟩ := List.mem_map.mp hl
  obtain ⟨b, hb, rfl⟩ := List.mem_map.mp he
  exact ⟨ha, hb⟩
/-- any point, any line: no higher than the hull -/
theorem LH_le {P C : List Pt} (h : PtsOk P) (H : Hull P C) {pl l : Pt} (ok : OkPl pl) (hl : P.getLast? = some l) (hN : pl.1 ≤ l.1 * pl.2) {D : List Pt} (hD : ∀ p ∈ D, p ∈ P) : ∀ x ∈ (0, 1) :: LH D pl, LeQ x (hof C pl) := fun x hx => by
  have hn := hof_nm ok (edge_ok h H)
  rcases List.mem_cons.mp hx with e | e
  · rw [e]
    have := hn.1
    show 0 * _ ≤ (hof C pl).1 * 1
    omega
  · rcases List.mem_append.mp e with e | e
    · obtain ⟨p, hp, rfl⟩ := List.mem_map.mp e
      have hm := List.mem_filter.mp hp
      have hx : p.1 * pl.2 = pl.1 := by simpa using hm.2
      exact hof_point h H ok hl hN (hD p hm.1) (by omega)
    · obtain ⟨f, hf, rfl⟩ := List.mem_map.mp e
      have hm := List.mem_filter.mp hf
      obtain ⟨u, v⟩ := f
      obtain ⟨x, y, ec⟩ := mem_edges.mp hm.1
      have hs := strict_iff.mp hm.2
      rw [cand_wide (strict_wide ok hm.2)]
      exact (hof_chord h H ok hl hN (hD u (by rw [ec]; simp)) (hD v (by rw [ec]; simp)) hs.1 hs.2).2
theorem heights {P C : List Pt} (h : PtsOk P) (H : Hull P C) (hC : PtsOk C) {pl l : Pt} (ok : OkPl pl) (hl : P.getLast? = some l) (hN : pl.1 ≤ l.1 * pl.2) : lhB C pl = hof C pl ∧ ltB P pl = hof C pl := by
  have hE := edge_ok h H
  have hn := hof_nm ok hE
  have hit := hof_hit h H ok
  constructor
  · refine low_unique (lhB_nm hC ok).2.2 hn.2.2 ?_
    rw [lhB_LH]
    exact mxQ_fold (LH_pos hC ok) hn.2.2.1 (LH_le h H ok hl hN fun p hp => H.mem hp) hit
  · have hnt : Nm (ltB P pl) := foldC_nm ok _ _ (lhB_nm h ok) fun e he hse => okE_of h (mem_prs he).1 (mem_prs he).2 (strict_wide ok hse)
    refine low_unique hnt.2.2 hn.2.2 ?_
    rw [ltB_LH]
    refine mxQ_fold (fun x hx => ?_) hn.2.2.1 (fun x hx => ?_) ?_
    · rcases List.mem_cons.mp hx with e | e
      · rw [e]; exact Int.one_pos
      · rcases List.mem_append.mp e with e | e
        · exact LH_pos h ok x (List.mem_cons_of_mem _ e)
        · obtain ⟨f, hf, rfl⟩ := List.mem_map.mp e
          have hm := List.mem_filter.mp hf
          exact (cand_nm ok (okE_of h (mem_prs hm.1).1 (mem_prs hm.1).2 (strict_wide ok hm.2)) (strict_ins hm.2)).2.2.1
    · rcases List.mem_cons.mp hx with e | e
      · exact LH_le h H ok hl hN (D := P) (fun p hp => hp) x (by rw [e]; simp)
      · rcases List.mem_append.mp e with e | e
        · exact LH_le h H ok hl hN (D := P) (fun p hp => hp) x (List.mem_cons_of_mem _ e)
        · obtain ⟨f, hf, rfl⟩ := List.mem_map.mp e
          have hm := List.mem_filter.mp hf
          have hs := strict_iff.mp hm.2
          obtain ⟨u, v⟩ := f
          rw [cand_wide (strict_wide ok hm.2)]
          exact (hof_chord h H ok hl hN (mem_prs hm.1).1 (mem_prs hm.1).2 hs.1 hs.2).2
    · -- reached: an edge of the hull is a pair of points
      obtain ⟨x, hx, hle⟩ := hit
      rcases List.mem_cons.mp hx with e | e
      · exact ⟨x, by rw [e]; simp, hle⟩
      · rcases List.mem_append.mp e with e | e
        · obtain ⟨p, hp, rfl⟩ := List.mem_map.mp e
          have hm := List.mem_filter.mp hp
          exact ⟨_, List.mem_cons_of_mem _ (List.mem_append_left _ (List.mem_append_left _ (List.mem_map.mpr ⟨p, List.mem_filter.mpr ⟨H.mem hm.1, hm.2⟩, rfl⟩))), hle⟩
        · obtain ⟨f, hf, rfl⟩ := List.mem_map.mp e
          have hm := List.mem_filter.mp hf
          obtain ⟨u, v⟩ := f
          obtain ⟨x, y, ec⟩ := mem_edges.mp hm.1
          refine ⟨_, List.mem_cons_of_mem _ (List.mem_append_right _ (List.mem_map.mpr ⟨(u, v), List.mem_filter.mpr ⟨?_, hm.2⟩, rfl⟩)), hle⟩
          unfold prs
          rw [List.mem_flatten]
          exact ⟨_, List.mem_map.mpr ⟨u, H.mem (by rw [ec]; simp), rfl⟩, List.mem_map.mpr ⟨v, H.mem (by rw [ec]; simp), rfl⟩⟩
end DL

/-! N4: mixtures -/
namespace DL
open PySem PySem.Spec PyProof.Rows L2
local macro_rules | `(tactic| walk_at "ev") => `(tactic| simp only [szL, Nat.reduceLeDiff, mBody, mBodyD, outP, outD, cVar, cC, cOp, cUn, cTest, cAndT, cOrT, cNotT, cAndV, cOrV, cIf, aNil, aCons, cTup, cLst, cSl, oNone, oSome, cCall, cCallF, cCallD, cMeth, noX', isL_list, isL_encP, tYesD, bnd_ok, bnd_exc, bnd_bad, lft_ok, lft_exc, lft_bad, isOk_ok, isOk_exc, isOk_bad, isD_int, isD_bool, isD_none, isD_str, isD_list, isD_tuple, isD_eP, isD_eT, isD_encP, isD_encT, allD, List.all_cons, List.all_nil, Bool.and_self, Bool.and_true, Bool.true_and, if_true, if_false, Bool.false_eq_true, ite_true, ite_false, reduceIte, List.length_cons, List.length_nil, List.map_cons, List.map_nil, List.cons_append, List.nil_append, List.replicate_succ, List.replicate_zero, List.getElem?_cons_zero, List.getElem?_cons_succ, List.set_cons_zero, List.set_cons_succ, wipeD, sSeq, sSet, sAsg, sRet, sIf, sExpr, sNil, sRaise, sSetF, sApp, sAug, sAugL, sPar, sPar3, fLst, bNm, bTup, bCons, bNil, pNot, pIsi, isiT, tyN, pNeg, Nat.reduceAdd, decide_true, decide_false, Bool.not_true, Bool.not_false, noX_ok, pLe_i, pLt_i, pGt_i, pGe_i, pAdd_i, pSub_i, pLen_l, pLen_t, pIx_t0, pIx_t1, pEq_i, pNe_i])
local macro_rules | `(tactic| walk_at "evs") => `(tactic| simp [szL, mBody, mBodyD, outP, outD, cVar, cC, cOp, cUn, cTest, cAndT, cOrT, cNotT, cAndV, cOrV, cIf, aNil, aCons, cTup, cLst, cSl, oNone, oSome, cCall, cCallF, cCallD, cMeth, noX', isL_list, isL_encP, tYesD, bnd_ok, bnd_exc, bnd_bad, lft_ok, lft_exc, lft_bad, isOk_ok, isOk_exc, isOk_bad, isD_int, isD_bool, isD_none, isD_str, isD_list, isD_tuple, isD_eP, isD_eT, isD_encP, isD_encT, allD, List.all_cons, List.all_nil, List.map_cons, List.map_nil, List.cons_append, List.nil_append, List.replicate_succ, List.replicate_zero, List.getElem?_cons_zero, List.getElem?_cons_succ, List.set_cons_zero, List.set_cons_succ, wipeD, sSeq, sSet, sAsg, sRet, sIf, sExpr, sNil, sRaise, sSetF, sApp, sAug, sAugL, sPar, sPar3, fLst, bNm, bTup, bCons, bNil, pNot, pIsi, isiT, tyN, pNeg, noX_ok, pLe_i, pLt_i, pGt_i, pGe_i, pAdd_i, pSub_i, pLen_l, pLen_t, pIx_t0, pIx_t1, pEq_i, pNe_i])
local macro_rules | `(tactic| walk_at "evx") => `(tactic| simp [szL, mBody, mBodyD, outP, outD, cVar, cC, cOp, cUn, cTest, cAndT, cOrT, cNotT, cAndV, cOrV, cIf, aNil, aCons, cTup, cLst, cSl, oNone, oSome, cCall, cCallF, cCallD, cMeth, noX', isL_list, isL_encP, tYesD, bnd_ok, bnd_exc, bnd_bad, lft_ok, lft_exc, lft_bad, isOk_ok, isOk_exc, isOk_bad, isD_int, isD_bool, isD_none, isD_str, isD_list, isD_tuple, isD_eP, isD_eT, isD_encP, isD_encT, allD, List.all_cons, List.all_nil, List.map_cons, List.map_nil, List.cons_append, List.nil_append, List.replicate_succ, List.replicate_zero, List.getElem?_cons_zero, List.getElem?_cons_succ, List.set_cons_zero, List.set_cons_succ, wipeD, sSeq, sSet, sAsg, sRet, sIf, sExpr, sNil, sRaise, sSetF, sApp, sAug, sAugL, sPar, sPar3, fLst, bNm, bTup, bCons, bNil, pNot, pIsi, isiT, tyN, pNeg, noX_ok, pLe_i, pLt_i, pGt_i, pGe_i, pAdd_i, pSub_i, pLen_l, pLen_t, pIx_t0, pIx_t1, pEq_i, pNe_i, *])
theorem lowQ_congr {n d n' d' : Int} (h : 0 < d) (h' : 0 < d') (e : n * d' = n' * d) : lowQ n d = lowQ n' d' := by
  refine low_unique (lowQ_low h) (lowQ_low h') (LeQ.anti ?_ ?_)
  · rw [LeQ.low h, LeQ.low' h']
    show n * d' ≤ n' * d
    omega
  · rw [LeQ.low h', LeQ.low' h]
    show n' * d ≤ n * d'
    omega
theorem lowQ_self {p : Pt} (h : IsLow p) : lowQ p.1 p.2 = p := by
  refine low_unique (lowQ_low h.1) h (LeQ.anti ?_ ?_)
  · rw [LeQ.low h.1]; exact Int.le_refl _
  · rw [LeQ.low' h.1]; exact Int.le_refl _
def meanC (a b : Int) (sh : Pt) : Pt := lowQ (a * sh.1 + b * (sh.2 - sh.1)) sh.2
theorem meanQ {x y u : Int} (hu : 0 < u) : lowQ ((lowQ x u).1 * (lowQ y u).2 + (lowQ y u).1 * (lowQ x u).2) ((lowQ x u).2 * (lowQ y u).2) = lowQ (x + y) u := by
  have hA := (lowQ_low (n := x) hu).1
  have hB := (lowQ_low (n := y) hu).1
  obtain ⟨a1, a2⟩ := lowQ_val (n := x) hu
  obtain ⟨b1, b2⟩ := lowQ_val (n := y) hu
  refine lowQ_congr (Int.mul_pos hA hB) hu ?_
  generalize lowQ x u = A at *
  generalize lowQ y u = B at *
  generalize (Int.gcd x u : Int) = g at *
  generalize (Int.gcd y u : Int) = h at *
  grind
/-- a share -/
structure OkS (sh : Pt) : Prop where
  low : IsLow sh
  n : 0 ≤ sh.1
  le : sh.1 ≤ sh.2
  d : sh.2 ≤ 12000
def mean2 (p q sh : Pt) : PD := .tuple [eP (meanC p.1 q.1 sh), eP (meanC p.2 q.2 sh)]
def Sq (p : Pt) : Prop := 0 ≤ p.1 ∧ p.1 ≤ 12 ∧ 0 ≤ p.2 ∧ p.2 ≤ 12
def sel (p : Pt) (k : Int) : Int := if k = 0 then p.1 else p.2
theorem sel_ix {p : Pt} {k : Int} (h : k ∈ [(0 : Int), 1]) : pIx (eP p) (.int k) = .ok (.int (sel p k)) := by
  simp only [List.mem_cons, List.not_mem_nil, or_false] at h
  rcases h with rfl | rfl
  · exact eP_0 p
  · exact eP_1 p
theorem sel_bd {p : Pt} (h : Sq p) (k : Int) : 0 ≤ sel p k ∧ sel p k ≤ 12 := by
  unfold sel Sq at *
  split <;> omega
theorem m__law_mean_eq {p q sh : Pt} (hp : Sq p) (hq : Sq q) (h : OkS sh) : m__law_mean [eP p, eP q, eP sh] = .ok (mean2 p q sh) := by
  have hd := h.low.1
  have hd2 := h.d
  refine mBody_of (ev_unp (s1 := ()) rfl rfl (ret_of (ev_call (ev_a1 (cComp_map [(0 : Int), 1] PyData.int (fun k => eP (meanC (sel p k) (sel q k) sh)) rfl (by decide) fun k hk => ⟨_, rfl, ?_, rfl⟩)) rfl) rfl))
  have b1 := sel_bd hp k
  have b2 := sel_bd hq k
  exact ev_callF (ev_aC (s2 := ()) (ev_op (s1 := ()) (ev_op (s1 := ()) (ev_op (s1 := ()) rfl rfl (sel_ix hk)) rfl (pMul_i (by omega))) (ev_op (s1 := ()) (ev_op (s1 := ()) rfl rfl (sel_ix hk)) (ev_op (s1 := ()) rfl rfl (pSub_i _ _)) (pMul_i (by omega))) (pAdd_i _ _)) (ev_a1 rfl)) (m__law_low_eq hd (by omega))
theorem m_product_eq {a t u : Int} (ha : -(2 ^ 64) < a ∧ a < 2 ^ 64) (hu : 0 < u) (hu2 : u < 1000000) : m_product [eP (a, 1), eP (t, u)] = .ok (eP (lowQ (a * t) u)) := by
  have := m_lowest_eq (n := a * t) (d := 1 * u) (by omega) (by omega)
  rw [Int.one_mul] at this
  exact mBody_of (ret_of (ev_callF (ev_aC (s1 := ()) (s2 := ()) (ev_op (s1 := ()) (ev_op (s2 := ()) rfl rfl (eP_0 _)) (ev_op (s2 := ()) rfl rfl (eP_0 _)) (pMul_i ha)) (ev_a1 (ev_op (s1 := ()) (ev_op (s2 := ()) rfl rfl (eP_1 _)) (ev_op (s2 := ()) rfl rfl (eP_1 _)) (by rw [pMul_i (by show (-(2 ^ 64) : Int) < 1 ∧ (1 : Int) < 2 ^ 64; decide), Int.one_mul])))) this) rfl)
theorem m_mean_point_eq {p q sh : Pt} (hp : Sq p) (hq : Sq q) (h : OkS sh) : m_mean_point [eP p, eP q, eP sh] = .ok (mean2 p q sh) := by
  have hd := h.low.1
  have hd2 := h.d
  have hn := h.n
  have hl := h.le
  refine mBody_of (ev_let (s1 := ()) (v := eP (sh.2 - sh.1, sh.2)) (ev_tup (ev_aC (s2 := ()) (ev_op (s1 := ()) (ev_op (s2 := ()) rfl rfl (eP_1 _)) (ev_op (s2 := ()) rfl rfl (eP_0 _)) (pSub_i _ _)) (ev_a1 (ev_op (s2 := ()) rfl rfl (eP_1 _))))) (ret_of (ev_call (ev_a1 (cComp_map [(0 : Int), 1] PyData.int (fun k => eP (meanC (sel p k) (sel q k) sh)) rfl (by decide) fun k hk => ⟨_, rfl, ?_, rfl⟩)) rfl) rfl))
  have b1 := sel_bd hp k
  have b2 := sel_bd hq k
  have m1 := mul_bd (a := sel p k) (b := sh.1) (A := 12) (B := 12000) b1.1 b1.2 hn (by omega)
  have m2 := mul_bd (a := sel q k) (b := sh.2 - sh.1) (A := 12) (B := 12000) b2.1 b2.2 (by omega) (by omega)
  have n1 := lowQ_num (n := sel p k * sh.1) hd m1.1
  have n2 := lowQ_num (n := sel q k * (sh.2 - sh.1)) hd m2.1
  have d1 := lowQ_den (n := sel p k * sh.1) hd
  have d2 := lowQ_den (n := sel q k * (sh.2 - sh.1)) hd
  have l1 := (lowQ_low (n := sel p k * sh.1) hd).1
  have l2 := (lowQ_low (n := sel q k * (sh.2 - sh.1)) hd).1
  have m3 := mul_bd (a := (lowQ (sel p k * sh.1) sh.2).2) (b := (lowQ (sel q k * (sh.2 - sh.1)) sh.2).2) (A := 12000) (B := 12000) (by omega) (by omega) (by omega) (by omega)
  refine ev_callF (ev_aC (s2 := ()) (ev_callF (ev_aC (s2 := ()) (ev_tup (ev_aC (s2 := ()) (ev_op (s1 := ()) rfl rfl (sel_ix hk)) (ev_a1 rfl))) (ev_a1 rfl)) (m_product_eq (a := sel p k) (t := sh.1) (u := sh.2) (by omega) hd (by omega))) (ev_a1 (ev_callF (ev_aC (s2 := ()) (ev_tup (ev_aC (s2 := ()) (ev_op (s1 := ()) rfl rfl (sel_ix hk)) (ev_a1 rfl))) (ev_a1 rfl)) (m_product_eq (a := sel q k) (t := sh.2 - sh.1) (u := sh.2) (by omega) hd (by omega))))) ((m_plus_eq (by unfold B64; omega) (by unfold B64; omega) l1 l2 (by omega) (by omega)).trans ?_)
  rw [meanQ hd]
  rfl
theorem m_check_share_eq {sh : Pt} (h : OkS sh) (h2 : sh.2 ≤ 1000) : m_check_share [eP sh] = .ok .none := by
  have hd := h.low.1
  unfold m_check_share
  have : b_check_share [some (eP sh)] () = .ok (.nx [some (eP sh)], ()) := by
    unfold b_check_share
    refine ev_guard (s1 := ()) (ev_or_f (s' := ()) rfl (ev_or_f (s' := ()) rfl (ev_not (b := true) (ev_test (ev_callF (ev_aC (s2 := ()) (ev_op (s2 := ()) rfl rfl (eP_1 _)) rfl) ?_))))) (ev_if_f (s' := ()) (ev_or_f (s' := ()) (ev_not (b := true) (ev_test (ev_callF (ev_aC (s2 := ()) (ev_op (s2 := ()) rfl rfl (eP_0 _)) (ev_aC (s1 := ()) (s2 := ()) rfl (ev_a1 (ev_op (s2 := ()) rfl rfl (eP_1 _))))) ?_))) (ev_test (ev_op (s1 := ()) (ev_callF (ev_aC (s2 := ()) (ev_op (s2 := ()) rfl rfl (eP_0 _)) (ev_a1 (ev_op (s2 := ()) rfl rfl (eP_1 _)))) (m_common_eq _ _)) rfl ?_))) rfl)
    · rw [m_is_int_int, decide_eq_true (by omega), decide_eq_true h2]; rfl
    · rw [m_is_int_int, decide_eq_true h.n, decide_eq_true h.le]; rfl
    · rw [h.low.2, pNe_i]; rfl
  show outP (b_check_share [some (eP sh)] ()) = _
  rw [this]
  rfl
theorem cnt_sq {T : List Th} (g : GoodT T) (t : Int) : Sq (cnt T t) := by
  have := cnt_rng g t
  unfold Sq; omega
theorem m_mixed_alarms_eq {T : List Th} (g : GoodT T) {a b : Int} (ha : 0 ≤ a ∧ a ≤ 100) (hb : 0 ≤ b ∧ b ≤ 100) {sh : Pt} (h : OkS sh) (h2 : sh.2 ≤ 1000) : m_mixed_alarms [encT T, .int a, .int b, eP sh] = .ok (mean2 (cnt T a) (cnt T b) sh) := by
  refine mBody_of (ev_check (ev_callF (s1 := ()) rfl (m_check_things_eq g)) (ev_guard (s1 := ()) (ev_or_f (s' := ()) (ev_not (b := true) (ev_test (ev_callF rfl ?_))) (ev_not (b := true) (ev_test (ev_callF rfl ?_)))) (ev_check (ev_callF (s1 := ()) rfl (m_check_share_eq h h2)) (ret_of (ev_callF (ev_aC (s2 := ()) (ev_callF rfl (m_counts_eq g.l1000 a)) (ev_aC (s2 := ()) (ev_callF rfl (m_counts_eq g.l1000 b)) (ev_a1 rfl))) (m_mean_point_eq (cnt_sq g a) (cnt_sq g b) h)) rfl))))
  · rw [m_is_int_int, decide_eq_true ha.1, decide_eq_true ha.2]; rfl
  · rw [m_is_int_int, decide_eq_true hb.1, decide_eq_true hb.2]; rfl
/-! ### the threshold of a point -/
def thP (T : List Th) (p : Pt) : Int := ((ths T).find? fun t => decide (cnt T t = p)).getD 100
theorem thP_ok {T : List Th} (g : GoodT T) {p : Pt} (hp : p ∈ pts T) : 0 ≤ thP T p ∧ thP T p ≤ 100 ∧ cnt T (thP T p) = p := by
  obtain ⟨t, ht, e⟩ := (pts_mem g).mp hp
  unfold thP
  cases h : (ths T).find? fun t => decide (cnt T t = p) with
  | none =>
    have := List.find?_eq_none.mp h t ht
    simp only [decide_eq_true_eq] at this
    exact absurd e.symm this
  | some u =>
    have h1 := List.find?_some h
    have h2 := List.mem_of_find?_eq_some h
    simp only [decide_eq_true_eq] at h1
    show 0 ≤ u ∧ u ≤ 100 ∧ cnt T u = p
    rcases List.mem_cons.mp h2 with z | z
    · exact ⟨by omega, by omega, h1⟩
    · obtain ⟨x, hx, q⟩ := mem_scs.mp z
      have := g.sc x hx
      exact ⟨by omega, by omega, h1⟩
theorem m_threshold_of_eq {T : List Th} (g : GoodT T) (p : Pt) : m_threshold_of [encT T, eP p] = .ok (.int (thP T p)) := by
  have h1 := scs_len T
  have h2 := g.l2
  refine mBody_of ?_
  have hit : iLst (cOp pAdd (cLst (aCons (cC (.int 100)) aNil)) (cCallF 1 m_scores_of (aCons (cVar 0) aNil))) [some (encT T), some (eP p), none] () = .ok ((ths T).map PyData.int, ()) :=
    ev_iLst (ev_op (s2 := ()) rfl (ev_callF rfl (m_scores_of_eq g.l64)) (pAdd_lists _ _ (by simp; omega)))
  have key := sForGo_find (d := Unit) (bd := bNm 2) (body := sIf (cTest (cOp pEq (cCallF 2 m_counts (aCons (cVar 0) (aCons (cVar 2) aNil))) (cVar 1))) (sRet (cVar 2)) sNil) PyData.int (fun t => decide (cnt T t = p)) PyData.int (fun ρ => ∃ c, ρ = [some (encT T), some (eP p), c]) () (ths T) [some (encT T), some (eP p), none] ⟨none, rfl⟩ fun t _ ρ hρ => by
    obtain ⟨c, rfl⟩ := hρ
    have ht : cTest (cOp pEq (cCallF 2 m_counts (aCons (cVar 0) (aCons (cVar 2) aNil))) (cVar 1)) [some (encT T), some (eP p), some (.int t)] () = .ok (decide (cnt T t = p), ()) := ev_test (ev_op (s1 := ()) (ev_callF rfl (m_counts_eq g.l1000 t)) rfl (pEq_eP _ _))
    refine ⟨[some (encT T), some (eP p), some (.int t)], rfl, fun h => ?_, fun h => ⟨[some (encT T), some (eP p), some (.int t)], ⟨_, rfl⟩, ?_⟩⟩
    · exact ev_if_t (s' := ()) (by rw [ht, h]) rfl
    · exact ev_if_f (s' := ()) (by rw [ht, h]) rfl
  unfold b_threshold_of thP
  cases h : (ths T).find? fun t => decide (cnt T t = p) with
  | none =>
    rw [h] at key
    obtain ⟨ρ', ⟨c, rfl⟩, e⟩ := key
    exact ev_seq (ev_for hit e) rfl
  | some u =>
    rw [h] at key
    exact ev_seq_rt (ev_for hit key)
/-! ### the share of an edge -/
def shr (pl : Pt) (e : Pt × Pt) : Pt := if e.2.1 - e.1.1 = 0 then (0, 1) else lowQ (e.2.1 * pl.2 - pl.1) ((e.2.1 - e.1.1) * pl.2)
theorem shr_ok {pl : Pt} (ok : OkPl pl) (hl : IsLow pl) {e : Pt × Pt} (k : OkE e) (i : ins pl e = true) : OkS (shr pl e) ∧ meanC e.1.2 e.2.2 (shr pl e) = cand pl e ∧ meanC e.1.1 e.2.1 (shr pl e) = pl := by
  have hi := ins_iff.mp i
  unfold shr cand
  by_cases z : e.2.1 - e.1.1 = 0
  · rw [if_pos z, if_pos z]
    refine ⟨⟨low1 0, Int.le_refl _, by show (0 : Int) ≤ 1; decide, by show (1 : Int) ≤ 12000; decide⟩, ?_, ?_⟩
    · unfold meanC
      dsimp only
      have := lowQ_self (low1 e.2.2)
      dsimp only at this
      rw [show e.1.2 * 0 + e.2.2 * (1 - 0) = e.2.2 by omega, this]
    · unfold meanC
      dsimp only
      have := lowQ_self (low1 e.2.1)
      dsimp only at this
      rw [show e.1.1 * 0 + e.2.1 * (1 - 0) = e.2.1 by omega, this]
      refine low_unique (low1 _) hl ?_
      show e.2.1 * pl.2 = pl.1 * 1
      have : e.1.1 = e.2.1 := by omega
      rw [this] at hi
      omega
  · rw [if_neg z, if_neg z]
    have c2 := chD_bd ok k z
    have hd : 0 < (e.2.1 - e.1.1) * pl.2 := c2.1
    have hn : 0 ≤ e.2.1 * pl.2 - pl.1 := by omega
    have hv := lowQ_val (n := e.2.1 * pl.2 - pl.1) hd
    have hg := gcd_pos' (n := e.2.1 * pl.2 - pl.1) hd
    have hL := lowQ_low (n := e.2.1 * pl.2 - pl.1) hd
    have hN := lowQ_num (n := e.2.1 * pl.2 - pl.1) hd hn
    have hD := lowQ_den (n := e.2.1 * pl.2 - pl.1) hd
    generalize lowQ (e.2.1 * pl.2 - pl.1) ((e.2.1 - e.1.1) * pl.2) = S at *
    generalize (Int.gcd (e.2.1 * pl.2 - pl.1) ((e.2.1 - e.1.1) * pl.2) : Int) = G at *
    have c3 : (e.2.1 - e.1.1) * pl.2 ≤ 12000 := c2.2
    refine ⟨⟨hL, hN.1, ?_, by omega⟩, ?_, ?_⟩
    · refine Int.le_of_mul_le_mul_right (a := G) ?_ hg
      rw [← hv.1, ← hv.2]
      have h1 := hi.1
      grind
    · unfold meanC
      refine lowQ_congr hL.1 c2.1 ?_
      unfold chN chD
      obtain ⟨h1, h2⟩ := hv
      have e1 : e.1.2 * (e.2.1 - e.1.1) * pl.2 + (pl.1 - e.1.1 * pl.2) * (e.2.2 - e.1.2) = (e.1.2 * S.1 + e.2.2 * (S.2 - S.1)) * G := by grind
      rw [e1, h2]
      grind
    · unfold meanC
      have := lowQ_self hl
      rw [← this]
      refine lowQ_congr hL.1 hl.1 ?_
      obtain ⟨h1, h2⟩ := hv
      refine Int.eq_of_mul_eq_mul_right (a := G) (by omega) ?_
      have e1 : (e.1.1 * S.1 + e.2.1 * (S.2 - S.1)) * G = pl.1 * (e.2.1 - e.1.1) := by grind
      grind
end DL

/-! DLL: three numbers and an empty list of one's own, at once -/
namespace DL
open PySem PySem.Spec PyProof.Rows L2
section
variable {X : Cx} {B : Bs} {O O' : List Nat}
def sFour {d : Type} (i j k l : Nat) (a b c : Int) : Env → d → R (Fl × d) := fun ρ s => .ok (.nx ((((ρ.set i (some (.int a))).set j (some (.int b))).set k (some (.int c))).set l (some (.list []))), s)
theorem ds_four (i j k l : Nat) {x y z u : Str} {a b c : Int} {ja jb jc : Nat} {pa pb pc pl px py pz pu pt pt2 pos : Pos} {kt k2 : Nat} (hN : X.N.Nodup) (hc : X.calm = true := by rfl)
    (hi1 : ∀ m, m ∈ O' → m = l ∨ m ∈ O := by decide) (hi2 : ∀ m, m ∈ O → m = l ∨ m ∈ O' := by decide) (hi3 : l ∈ O' := by decide)
    (hOi : i ∉ O := by decide) (hOj : j ∉ O := by decide) (hOk : k ∉ O := by decide)
    (h1 : X.N[i]? = some x := by rfl) (h2 : X.N[j]? = some y := by rfl) (h3 : X.N[k]? = some z := by rfl) (h4 : X.N[l]? = some u := by rfl)
    (l1 : Loc X.env.scope x := by first | exact Or.inl rfl | exact Or.inr rfl) (l2 : Loc X.env.scope y := by first | exact Or.inl rfl | exact Or.inr rfl) (l3 : Loc X.env.scope z := by first | exact Or.inl rfl | exact Or.inr rfl) (l4 : Loc X.env.scope u := by first | exact Or.inl rfl | exact Or.inr rfl)
    (f1 : X.fn x = true ∨ X.env.scope.names.lookup x = some .local := by first | exact .inl rfl | exact .inr rfl) (f2 : X.fn y = true ∨ X.env.scope.names.lookup y = some .local := by first | exact .inl rfl | exact .inr rfl) (f3 : X.fn z = true ∨ X.env.scope.names.lookup z = some .local := by first | exact .inl rfl | exact .inr rfl) (f4 : X.fn u = true ∨ X.env.scope.names.lookup u = some .local := by first | exact .inl rfl | exact .inr rfl)
    (hs : swapsWithSole [.Tuple [.Name x px, .Name y py, .Name z pz, .Name u pu] kt pt] (.Tuple [.Constant (.int a) ja pa, .Constant (.int b) jb pb, .Constant (.int c) jc pc, .List [] pl] k2 pt2) pos.line X.env = pure false := by rfl)
    (hw : swappedStores [.Tuple [.Name x px, .Name y py, .Name z pz, .Name u pu] kt pt] (.Tuple [.Constant (.int a) ja pa, .Constant (.int b) jb pb, .Constant (.int c) jc pc, .List [] pl] k2 pt2) X.env = pure none := by rfl) :
    DS X B O O' (.Assign [.Tuple [.Name x px, .Name y py, .Name z pz, .Name u pu] kt pt] (.Tuple [.Constant (.int a) ja pa, .Constant (.int b) jb pb, .Constant (.int c) jc pc, .List [] pl] k2 pt2) pos) (sFour i j k l a b c) := by
  have he : PE X (.Tuple [.Constant (.int a) ja pa, .Constant (.int b) jb pb, .Constant (.int c) jc pc, .List [] pl] k2 pt2) (tTup (tCons (tC (.int a)) (tCons (tC (.int b)) (tCons (tC (.int c)) (tCons (tLst tNil) tNil))))) :=
    pe_tup (pa_cons pe_int (pa_cons pe_int (pa_cons pe_int (pa_cons (pe_lst pa_nil) pa_nil))))
  have hg : PG X (.Tuple [.Name x px, .Name y py, .Name z pz, .Name u pu] kt pt) (gTup X.K 4 (gCons (gName i) (gCons (gName j) (gCons (gName k) (gCons (gName l) gNil))))) :=
    pg_tup hc (pgs_cons (pg_name hN h1 l1 f1) (pgs_cons (pg_name hN h2 l2 f2) (pgs_cons (pg_name hN h3 l3 f3) (pgs_cons (pg_name hN h4 l4 f4) pgs_nil))))
  refine PS.imp (ps_asg he hg hs hw) fun D σ H h => ?_
  obtain ⟨G, ρ, s, at0, p⟩ := h
  refine ⟨by decide, fun q hq => ⟨by show 4 ≤ sizeLine; decide, fun r hr => ?_⟩⟩
  have hrq : r ≠ q := fun e => by rw [e, upd_same] at hr; cases hr
  have gq : G q = none := by
    cases e : G q with
    | none => rfl
    | some o => rw [at0.sit.sub _ _ e] at hq; cases hq
  have S1 : Sit B.W G (upd H q (.lst [])) s := at0.sit.allocH hq
  have S2 : Sit B.W G (upd (upd H q (.lst [])) r (.tup [.int a, .int b, .int c, .ref q])) s := S1.allocH hr
  have g2 : Gr B.W.fp G H G (upd (upd H q (.lst [])) r (.tup [.int a, .int b, .int c, .ref q])) := (Gr.allocH hq).trans (Gr.allocH hr)
  have a2 := at0.step g2 S2
  refine ⟨r, _, rfl, SqT.of upd_same, rfl, .int a, _, rfl, .int b, _, rfl, .int c, _, rfl, .ref q, _, rfl, rfl, ?_⟩
  refine p _ G _ ⟨S2, a2.gr, ?_⟩
  refine RS.setO (((a2.rs.set (.inl (.int a)) hOi).set (.inl (.int b)) hOj).set (.inl (.int c)) hOk) hi1 hi2 hi3 (vs := []) (by rw [upd_ne (Ne.symm hrq), upd_same]) .nil gq (at0.gr.dom q hq) (fun zz => at0.sit.fpH q zz hq) fun m d mO _ e zz => ?_
  have hij : i ≠ m := fun e => hOi (e ▸ mO)
  have hjm : j ≠ m := fun e => hOj (e ▸ mO)
  have hkm : k ≠ m := fun e => hOk (e ▸ mO)
  rw [List.getElem?_set_ne hkm, List.getElem?_set_ne hjm, List.getElem?_set_ne hij] at e zz
  obtain ⟨r', ws, es, q1, q2, q3, _⟩ := at0.rs.own m d e mO
  rw [zz] at q1; cases q1
  rw [hq] at q3; cases q3
end
end DL

/-! DLM: tuple(range(n)), list(range(n)) of a written n -/
namespace DL
open PySem PySem.Spec PyProof.Rows L2
section
variable {X : Cx} {B : Bs} {O O' : List Nat}
theorem rgV_dg (G : Hp) (n : Int) : DgAll G (rgV 0 n) (rngL 0 1 n.toNat) := by
  unfold rgV rngL
  have : ∀ l : List Nat, DgAll G (l.map fun (i : Nat) => V.int (0 + (i : Int))) (l.map fun (i : Nat) => PyData.int (0 + (i : Int) * 1)) := fun l => by
    induction l with
    | nil => exact .nil
    | cons i l ih =>
      rw [List.map_cons, List.map_cons, Int.mul_one]
      exact .cons (.int _) ih
  rw [Int.sub_zero]
  exact this _
theorem de_tupRg {n : Int} {j : Nat} {p p2 pc q pos : Pos} (hm1 : X.mg "tuple" = none) (hm2 : X.mg "range" = none) (h0 : (decide (0 ≤ n) && decide (n ≤ 1000)) = true := by decide) (hc : X.calm = true := by rfl) (hg1 : Gl X "tuple" := by rfl) (hg2 : Gl X "range" := by rfl)
    (s1 : starEach [.Constant (.int n) j pc] X.env = (false, eval (.Constant (.int n) j pc) X.env) :: starEach [] X.env := by rfl)
    (s2 : starEach [.Call (.Name "range" p2) [.Constant (.int n) j pc] [] q] X.env = (false, eval (.Call (.Name "range" p2) [.Constant (.int n) j pc] [] q) X.env) :: starEach [] X.env := by rfl) :
    DE X B O (.Call (.Name "tuple" p) [.Call (.Name "range" p2) [.Constant (.int n) j pc] [] q] [] pos) (cC (.tuple (rngL 0 1 n.toNat))) :=
  PE.imp (pe_tupRg hc hg1 hm1 (prg_1 hg2 hm2 pe_int s1) s2) fun σ H Q h => by
    obtain ⟨G, ρ, s, a, p⟩ := h
    rw [Bool.and_eq_true, decide_eq_true_eq, decide_eq_true_eq] at h0
    exact ⟨n, rfl, RgOk.of_le (by omega) (by omega) (by omega) (by omega), fun q hq => PostE.tup a.sit (rgV_dg G n) p hq⟩
theorem de_lstRg {n : Int} {j : Nat} {p p2 pc q pos : Pos} (hm1 : X.mg "list" = none) (hm2 : X.mg "range" = none) (h0 : (decide (0 ≤ n) && decide (n ≤ 1000)) = true := by decide) (hc : X.calm = true := by rfl) (hg1 : Gl X "list" := by rfl) (hg2 : Gl X "range" := by rfl)
    (s1 : starEach [.Constant (.int n) j pc] X.env = (false, eval (.Constant (.int n) j pc) X.env) :: starEach [] X.env := by rfl)
    (s2 : starEach [.Call (.Name "range" p2) [.Constant (.int n) j pc] [] q] X.env = (false, eval (.Call (.Name "range" p2) [.Constant (.int n) j pc] [] q) X.env) :: starEach [] X.env := by rfl) :
    DE X B O (.Call (.Name "list" p) [.Call (.Name "range" p2) [.Constant (.int n) j pc] [] q] [] pos) (cC (.list (rngL 0 1 n.toNat))) :=
  PE.imp (pe_listRg hc hg1 hm1 (prg_1 hg2 hm2 pe_int s1) s2) fun σ H Q h => by
    obtain ⟨G, ρ, s, a, p⟩ := h
    rw [Bool.and_eq_true, decide_eq_true_eq, decide_eq_true_eq] at h0
    exact ⟨n, rfl, RgOk.of_le (by omega) (by omega) (by omega) (by omega), fun q hq => PostE.lst a.sit (rgV_dg G n) p hq⟩
end
end DL

/-! DLN: sorted(set(..)) of pairs; the list may be long, its unlike pairs are few -/
namespace DL
open PySem PySem.Spec PyProof.Rows L2
abbrev Kp := Addr × List Int
/-- what the set holds behind i items -/
structure Hld (xs : List Kp) (i : Nat) (L : List Kp) : Prop where
  inn : ∀ q ∈ L, q ∈ xs
  had : ∀ q ∈ xs.take i, q.2 ∈ L.map (·.2)
/-- unlike keys are few -/
def FewK (xs : List Kp) : Prop := ∀ L : List Kp, (∀ q ∈ L, q ∈ xs) → (L.map (·.2)).Nodup → L.length + 1 < 64
theorem Hld.next {xs L M : List Kp} {i : Nat} {q : Kp} (h : Hld xs i L) (hq : xs[i]? = some q) (c1 : q.2 ∈ L.map (·.2) → M = L) (c2 : q.2 ∉ L.map (·.2) → M.Perm (q :: L)) : Hld xs (i + 1) M := by
  have et : xs.take (i + 1) = xs.take i ++ [q] := by rw [List.take_add_one, hq]; rfl
  by_cases c : q.2 ∈ L.map (·.2)
  · have e := c1 c
    subst e
    refine ⟨h.inn, fun r hr => ?_⟩
    rw [et] at hr
    rcases List.mem_append.mp hr with z | z
    · exact h.had r z
    · rw [List.mem_singleton.mp z]; exact c
  · have pm := c2 c
    refine ⟨fun r hr => ?_, fun r hr => ?_⟩
    · rcases List.mem_cons.mp (pm.mem_iff.mp hr) with z | z
      · rw [z]; exact List.mem_of_getElem? hq
      · exact h.inn r z
    · rw [(pm.map (·.2)).mem_iff, List.map_cons]
      rw [et] at hr
      rcases List.mem_append.mp hr with z | z
      · exact List.mem_cons_of_mem _ (h.had r z)
      · rw [List.mem_singleton.mp z]; exact List.mem_cons_self
section
variable {P : Program} {w : World} {A : Around} {E : Value → Shared → Prop} {s : Shared}
theorem tup_loop {I : Addr} {fp wr : List Addr} {G : Array GenState → Array GenState → Prop} {n : Nat} {Pv : Nat → Value → Prop} {St : Nat → Shared → Prop} {R : Result → Shared → Prop} (W : WalksS P w A.in1 I fp wr G n Pv St) (Z : Addr) (zf : Z ∉ fp) (xs : List Kp) (nx : n = xs.length) (few : FewK xs)
    (vl : ∀ i v, Pv i v → ∃ q, xs[i]? = some q ∧ v = .ref q.1) (b0 : Heap) (tx : ∀ q ∈ xs, IsT P w b0 q.2 q.1) (z0 : b0.get? Z = none) (w0 : ∀ b ∈ wr, b0.get? b = none) (un : A.in1.units < cLine) :
    ∀ (m i : Nat) (s : Shared), n - i = m → i ≤ n → St i s → (∀ b o, b0.get? b = some o → s.heap.get? b = some o) → (∃ L es ep t, SetTR P w s.heap Z L es ep t ∧ Hld xs i L) →
      (∀ s' L es ep t, Moved (Z :: wr) G s s' → SetTR P w s'.heap Z L es ep t → Hld xs n L → (∀ b o, b0.get? b = some o → s'.heap.get? b = some o) → R (.ok (.ret .none)) s') → codeAny (model P w) A (.builtin "set.update.loop" ⟨[.ref Z, .ref I], []⟩) R s := by
  have zw : Z ∉ wr := fun h => zf (W.sub _ h)
  have up1 : ∀ b ∈ wr, b ∈ Z :: wr := fun b hb => List.mem_cons_of_mem _ hb
  have stay : ∀ {u v : Shared}, Moved wr G u v → (∀ b o, b0.get? b = some o → u.heap.get? b = some o) → ∀ b o, b0.get? b = some o → v.heap.get? b = some o := fun {u v} mv k b o e => by
    refine mv.heap b o (fun hb => ?_) (k b o e)
    have := w0 b hb
    rw [this] at e; cases e
  intro m
  induction m with
  | zero =>
    rintro i s hm hi st kp ⟨L, es, ep, t, hz, hl⟩ fin
    obtain rfl : i = n := by omega
    refine codeAny_builtin F.entry_set_update_loop ?_
    rw [Around.under_plainId F.plain_set_update_loop _]
    refine (wpAny_bind (W.done s _ _ st fun v mv => ?_) : wpAny _ A.in1 (pyNext (.ref I) >>= _) _ _ s)
    have kp2 := stay mv kp
    have hz2 : SetTR P w v.heap Z L es ep t := hz.keep (fun o e => mv.heap Z o zw e) fun q hq => isT_keep (tx q (hl.inn q hq)) kp2
    show wpAny _ A.in1 (ret Value.none) _ _ v
    exact wpAny_pure (fin v L es ep t (mv.mono up1) hz2 hl kp2)
  | succ m ih =>
    rintro i s hm hi st kp ⟨L, es, ep, t, hz, hl⟩ fin
    have lt : i < n := by omega
    refine codeAny_builtin F.entry_set_update_loop ?_
    rw [Around.under_plainId F.plain_set_update_loop _]
    refine (wpAny_bind (W.item i s _ _ lt st fun v u pv st' mv => ?_) : wpAny _ A.in1 (pyNext (.ref I) >>= _) _ _ s)
    obtain ⟨q, hq, rfl⟩ := vl i v pv
    have kp2 := stay mv kp
    have hz2 : SetTR P w u.heap Z L es ep t := hz.keep (fun o e => mv.heap Z o zw e) fun r hr => isT_keep (tx r (hl.inn r hr)) kp2
    have hx2 : IsT P w u.heap q.2 q.1 := isT_keep (tx q (List.mem_of_getElem? hq)) kp2
    refine (wpAny_bind (wpAny_holding ?_) : wpAny _ A.in1 (holding [Value.ref q.1] (setAdd Z (.ref q.1)) >>= _) _ _ u)
    unfold setAdd
    refine wpAny_holding (wpAny_bind (wpAny_pyHash_tuple un hx2 ?_))
    have lf := few L hl.inn hz2.nd
    refine add_at (s := { u with toks := u.toks + (q.2.length + 1) }) hz2 hx2 un lf fun b h1 M es1 ep1 t1 sm hz3 c1 c2 => ?_
    have hl2 := hl.next hq c1 c2
    have kp3 : ∀ b o, b0.get? b = some o → h1.get? b = some o := fun b o e => by
      have nb : b ≠ Z := fun z => by rw [z, z0] at e; cases e
      rw [sm.2 b nb]; exact kp2 b o e
    refine wpAny_pure ⟨plainId_quiet F.plain_set_update_loop _, ih (i + 1) _ (by omega) lt (W.frame _ u _ _ st' (Nat.le_add_right _ _) fun b hb o e => ?_) kp3 ⟨M, es1, ep1, t1, hz3, hl2⟩ fun s2 L2 es2 ep2 t2 mv2 hz4 hl4 kp4 => ?_⟩
    · have nb : b ≠ Z := fun z => zf (z ▸ hb)
      rw [sm.2 b nb]; exact e
    · refine fin s2 L2 es2 ep2 t2 (Moved.trans W.gtrans ((mv.mono up1).then_heap (Nat.le_add_right _ _) fun b o hb e => ?_) mv2) hz4 hl4 kp4
      have nb : b ≠ Z := fun z => hb (z ▸ List.mem_cons_self)
      rw [sm.2 b nb]; exact e
theorem set_of_tups {l : Addr} {items : Array Value} (xs : List Kp) {Q : Value → Shared → Prop} (hh : A.handled = none) (hl : s.heap.IsList l items) (hit : items.toList = xs.map fun q => Value.ref q.1) (tx : ∀ q ∈ xs, IsT P w s.heap q.2 q.1) (few : FewK xs) (un : A.units + 3 < cLine)
    (h : ∀ (h' : Heap) (tk : Nat) L es ep t, SetTR P w h' s.heap.objs.size L es ep t → Hld xs xs.length L → (∀ b o, s.heap.get? b = some o → h'.get? b = some o) → Q (.ref s.heap.objs.size) { s with heap := h', toks := tk }) :
    wpAny (model P w) A (call (.type "set") [.ref l]) Q E s := by
  have isz : items.size = xs.length := (Array.length_toList (xs := items)).symm.trans (by rw [hit, List.length_map])
  obtain ⟨c, tl, hmro⟩ := F.called_set.mro
  have hmade := F.called_set.made
  have hsub := F.called_set.sub
  refine wpAny_call (codeAny_of_tree ?_)
  show wpAny _ _ (callAny (.type "set") _) _ _ _
  refine wpAny_pure ⟨Code.quiet_builtin _ (by decide +kernel), codeAny_builtin F.entry_type_call ?_⟩
  rw [Around.under_plain (weight_type_call_type "set" [.ref l] []) rfl]
  have h1 := F.called_set.notType
  have h2 := F.called_set.canCreate
  have hct := F.typeCall_set_1 (.ref l)
  repeat (any_goals (first | assumption | wp_step))
  refine codeAny_mono (code_set_led1 (.ref l) (E := E) (Q₁ := fun obj s₁ => obj = .ref s.heap.objs.size ∧ s₁ = { s with heap := s.heap.push (newSet w) }) ⟨rfl, rfl⟩) fun r s₁ hr => ?_
  cases r with
  | error e => exact hr
  | ok fl =>
    cases fl with
    | ret obj =>
      obtain ⟨rfl, rfl⟩ := hr
      have gS : (s.heap.push (newSet w)).get? s.heap.objs.size = some (newSet w) := Heap.get?_push_size _ rfl
      have tS : Shared.TypeIs { s with heap := s.heap.push (newSet w) } (.ref s.heap.objs.size) "set" := ⟨_, gS, rfl⟩
      have hli := F.called_set.init.lookup
      have hbi := F.called_set.init.bind (.ref s.heap.objs.size)
      repeat (any_goals (first | assumption | wp_step))
      refine codeAny_mono (codeAny_call_builtin (R := wants (fun r s₂ => r = .none ∧ ∃ h' tk L es ep t, s₂ = { s with heap := h', toks := tk } ∧ SetTR P w h' s.heap.objs.size L es ep t ∧ Hld xs xs.length L ∧ (∀ b o, s.heap.get? b = some o → h'.get? b = some o)) E) F.called_set.init.plain F.entry_set_init (check_set_init_1 tS ?_)) fun r₂ s₂ hr₂ => ?_
      · obtain ⟨⟨oc, od, odt, os⟩, gl, rfl, nl, rfl⟩ := hl
        have gl' : (s.heap.push (newSet w)).get? l = some { cls := .type "list", dict := od, data := .seq items nl, slots := os } := Heap.get?_push_of_some _ gl
        have hsls := F.sub_list_set
        have hslf := F.sub_list_frozenset
        have hne : (Value.type "list" == Value.type "dict") = false := by decide
        have hl1 : (s.heap.push (newSet w)).IsList l items := ⟨_, gl', rfl, nl, rfl⟩
        unfold Builtin.«set.__init__» noKeywords Builtin.Frozenset.updateFrom
        generalize hPI : pyIter = PI
        wp_walk
        subst hPI
        refine wpAny_pyIter_list hl1 (wpAny_bind (wpAny_runValue ?_))
        have lS : l < s.heap.objs.size := Heap.lt_size gl
        have h3 : A.in1.in1.in1.handled = none := by simp [hh]
        have zS : (s.heap.push (newSet w)).objs.size = s.heap.objs.size + 1 := Heap.size_push ..
        have nI : l ≠ (s.heap.push (newSet w)).objs.size := by rw [zS]; exact Nat.ne_of_lt (Nat.lt_succ_of_lt lS)
        have nf : s.heap.objs.size ∉ [(s.heap.push (newSet w)).objs.size, l] := by
          rw [zS]
          simp only [List.mem_cons, List.not_mem_nil, or_false, not_or]
          exact ⟨Nat.ne_of_lt (Nat.lt_succ_self _), Nat.ne_of_gt lS⟩
        have vl : ∀ (i : Nat) (v : Value), items[i]? = some v → ∃ q, xs[i]? = some q ∧ v = .ref q.1 := fun i v hv => by
          have hv2 : (xs.map fun q => Value.ref q.1)[i]? = some v := by rw [← hit, Array.getElem?_toList]; exact hv
          rw [List.getElem?_map] at hv2
          obtain ⟨q, hq, e⟩ := Option.map_eq_some_iff.mp hv2
          exact ⟨q, hq, e.symm⟩
        have gone : ∀ b, s.heap.objs.size ≤ b → s.heap.get? b = none := fun b hb => by
          cases q : s.heap.get? b with
          | none => rfl
          | some o => exact absurd (Heap.lt_size q) (Nat.not_lt.mpr hb)
        refine tup_loop ((Walks.list h3 _ l nI items).toS) s.heap.objs.size nf xs isz few vl s.heap tx (gone _ (Nat.le_refl _)) (fun b hb => gone b (by rw [List.mem_singleton.mp hb, zS]; exact Nat.le_succ _)) un (items.size - 0) 0 _ (by omega) (Nat.zero_le _) ⟨⟨_, Heap.get?_push_size _ rfl, rfl, rfl⟩, (hl1.push _)⟩
          (fun b o e => Heap.get?_push_of_some _ (Heap.get?_push_of_some _ e)) ⟨[], #[], 0, _, setTR_fresh (Heap.get?_push_of_some _ gS), fun q hq => (by cases hq), fun q hq => (by simp at hq)⟩ ?_
        intro s' L es ep t hm hS' g' hkp
        obtain ⟨h', g2, d', tk', os'⟩ := s'
        obtain rfl : g2 = s.gens := hm.gens
        obtain rfl : d' = s.drawn := hm.drawn
        obtain rfl : os' = s.os := hm.os
        rw [isz] at g'
        exact wpAny_pure (wpAny_pure ⟨rfl, h', tk', L, es, ep, t, rfl, hS', g', hkp⟩)
      · cases r₂ with
        | error e => exact hr₂
        | ok fl₂ =>
          cases fl₂ with
          | ret r =>
            obtain ⟨rfl, h', tk, L, es, ep, t, rfl, hS', g', hk'⟩ := hr₂
            repeat (any_goals (first | assumption | wp_step))
            exact h _ _ _ _ _ _ hS' g' hk'
          | _ => exact hr₂.elim
    | _ => exact hr.elim
end
section
variable {X : Cx} {B : Bs} {O : List Nat}
theorem cr_setTF (hc : X.calm = true) (hu : X.A.units + 64 < cLine) : CallR X (.type "set") (fun vs H Q => ∃ (l : Addr) (xs : List Kp), vs = [V.ref l] ∧ SqL X.K H l (xs.map fun q => V.ref q.1) ∧ (∀ q ∈ xs, SqT X.K H q.1 (q.2.map V.int)) ∧ FewK xs ∧
    ∀ a L, H a = none → (∀ q ∈ L, q ∈ xs) → (∀ q ∈ xs, q.2 ∈ L.map (·.2)) → Q (.ref a) (upd H a (SetTO X.prog X.w a L))) := by
  intro pins s σ H vs us Q I r h
  obtain ⟨l, xs, rfl, hl, hk, few, q⟩ := h
  rw [Vals.ref1 r]
  obtain ⟨its, rv, pl, hz⟩ := I.list hl
  refine set_of_tups (P := X.prog) (w := X.w) xs (I.ok.hd hc) pl.isList (by simpa using refs_of_vals rv) (fun p hp => I.isT (hk p hp)) few (by omega) fun h' tk L es ep t R g k => ?_
  exact ⟨.ref s.heap.objs.size, upd H s.heap.objs.size (SetTO X.prog X.w s.heap.objs.size L), I.laid (t' := tk) k (Nat.le_refl _) (setTO_new R.t0), rfl, q _ L (I.hok.fresh (Nat.le_refl _)) g.inn fun p hp => g.had p (by rw [List.take_length]; exact hp)⟩
/-! ### the data rule -/
def insUP (k : Int × Int) : List (Int × Int) → List (Int × Int)
  | [] => [k]
  | x :: r => if k = x then x :: r else if lexLe k x = true then k :: x :: r else x :: insUP k r
def sortUP : List (Int × Int) → List (Int × Int)
  | [] => []
  | x :: r => insUP x (sortUP r)
def LexLt (p q : Int × Int) : Prop := p.1 < q.1 ∨ (p.1 = q.1 ∧ p.2 < q.2)
theorem mem_insUP {k j : Int × Int} : ∀ {l : List (Int × Int)}, j ∈ insUP k l ↔ j = k ∨ j ∈ l
  | [] => by simp [insUP]
  | x :: r => by
    unfold insUP
    split
    · rename_i h
      subst h
      simp
    · split
      · simp
      · rw [List.mem_cons, mem_insUP (l := r), List.mem_cons]
        constructor
        · rintro (h | h | h)
          · exact .inr (.inl h)
          · exact .inl h
          · exact .inr (.inr h)
        · rintro (h | h | h)
          · exact .inr (.inl h)
          · exact .inl h
          · exact .inr (.inr h)
theorem mem_sortUP {j : Int × Int} : ∀ {l : List (Int × Int)}, j ∈ sortUP l ↔ j ∈ l
  | [] => by simp [sortUP]
  | x :: r => by
    unfold sortUP
    rw [mem_insUP, mem_sortUP (l := r), List.mem_cons]
theorem LexLt.of {p q : Int × Int} (h : LexLe p q) (n : p ≠ q) : LexLt p q := by
  unfold LexLe at h
  unfold LexLt
  rcases h with h | ⟨h1, h2⟩
  · exact .inl h
  · refine .inr ⟨h1, ?_⟩
    rcases Int.lt_or_le p.2 q.2 with z | z
    · exact z
    · exact absurd (Prod.ext h1 (by omega)) n
theorem LexLt.trans {p q r : Int × Int} (h : LexLt p q) (k : LexLt q r) : LexLt p r := by
  unfold LexLt at *
  omega
theorem LexLt.irr {p : Int × Int} (h : LexLt p p) : False := by
  unfold LexLt at h
  omega
theorem lt_insUP {k : Int × Int} : ∀ {l : List (Int × Int)}, l.Pairwise LexLt → (insUP k l).Pairwise LexLt
  | [], _ => by simp [insUP]
  | x :: r, h => by
    have h' := List.pairwise_cons.mp h
    unfold insUP
    split
    · exact h
    · rename_i hne
      split
      · rename_i hk
        have hkx := LexLt.of (lexLe_iff.mp hk) hne
        refine List.pairwise_cons.mpr ⟨fun y hy => ?_, h⟩
        rcases List.mem_cons.mp hy with z | z
        · rw [z]; exact hkx
        · exact hkx.trans (h'.1 y z)
      · rename_i hk
        refine List.pairwise_cons.mpr ⟨fun y hy => ?_, lt_insUP h'.2⟩
        rcases mem_insUP.mp hy with z | z
        · rw [z]; exact LexLt.of (LexLe.total fun q => hk (lexLe_iff.mpr q)) (Ne.symm hne)
        · exact h'.1 y z
theorem lt_sortUP : ∀ {l : List (Int × Int)}, (sortUP l).Pairwise LexLt
  | [] => .nil
  | x :: r => lt_insUP lt_sortUP
theorem lex_ext : ∀ {l m : List (Int × Int)}, l.Pairwise LexLt → m.Pairwise LexLt → (∀ p, p ∈ l ↔ p ∈ m) → l = m
  | [], [], _, _, _ => rfl
  | [], y :: m, _, _, h => by have := (h y).mpr (by simp); simp at this
  | x :: l, [], _, _, h => by have := (h x).mp (by simp); simp at this
  | x :: l, y :: m, h1, h2, h => by
    have p1 := List.pairwise_cons.mp h1
    have p2 := List.pairwise_cons.mp h2
    have e : x = y := by
      rcases List.mem_cons.mp ((h x).mp (by simp)) with z | z
      · exact z
      · rcases List.mem_cons.mp ((h y).mpr (by simp)) with w | w
        · exact w.symm
        · exact ((p2.1 x z).trans (p1.1 y w)).irr.elim
    subst e
    congr 1
    refine lex_ext p1.2 p2.2 fun k => ⟨fun hk => ?_, fun hk => ?_⟩
    · rcases List.mem_cons.mp ((h k).mp (List.mem_cons_of_mem _ hk)) with z | z
      · subst z; exact (p1.1 _ hk).irr.elim
      · exact z
    · rcases List.mem_cons.mp ((h k).mpr (List.mem_cons_of_mem _ hk)) with z | z
      · subst z; exact (p2.1 _ hk).irr.elim
      · exact z
def okUP (ps : List (Int × Int)) : Bool := ps.all (fun p => decide (0 ≤ p.1) && decide (p.1 < 64) && decide (0 ≤ p.2) && decide (p.2 < 64)) && decide ((sortUP ps).length < 60)
def pSortSetP : PD → R PD
  | .list xs => match toPairs xs with
    | some ps => if okUP ps = true then .ok (.list ((sortUP ps).map pD)) else .bad
    | none => .bad
  | _ => .bad
def adr : V → Addr
  | .ref t => t
  | _ => 0
theorem nodup_len {a : Type} [DecidableEq a] : ∀ (l m : List a), l.Nodup → (∀ x ∈ l, x ∈ m) → l.length ≤ m.length
  | [], _, _, _ => Nat.zero_le _
  | x :: l, m, hn, hs => by
    have hn' := List.nodup_cons.mp hn
    have := nodup_len l (m.erase x) hn'.2 fun y hy => (List.mem_erase_of_ne (fun z : y = x => hn'.1 (by rw [← z]; exact hy))).mpr (hs y (List.mem_cons_of_mem _ hy))
    have hx := hs x (by simp)
    rw [List.length_erase_of_mem hx] at this
    have : 0 < m.length := List.length_pos_iff.mpr fun z => by rw [z] at hx; cases hx
    rw [List.length_cons]; omega
theorem de_sortSetP {e : Expr} {fe : Mx B PD} {p p2 q pos : Pos} (hu : X.A.units + 64 < cLine) (hm1 : X.mg "sorted" = none) (hm2 : X.mg "set" = none) (he : DE X B O e fe) (hc : X.calm = true := by rfl) (hg1 : Gl X "sorted" := by rfl) (hg2 : Gl X "set" := by rfl)
    (s1 : starEach [e] X.env = (false, eval e X.env) :: starEach [] X.env := by rfl) (s2 : starEach [.Call (.Name "set" p2) [e] [] q] X.env = (false, eval (.Call (.Name "set" p2) [e] [] q) X.env) :: starEach [] X.env := by rfl)
    (l1 : (backTo q (starEach [] X.env)).any (·.1) = false := by rfl) (l2 : (backTo pos (starEach [] X.env)).any (·.1) = false := by rfl) : DE X B O (.Call (.Name "sorted" p) [.Call (.Name "set" p2) [e] [] q] [] pos) (cUn pSortSetP fe) :=
  PE.imp (pe_callB (cr_sortedT hc) hg1 hm1 (by decide +kernel) (pa_cons (pe_callTy (cr_setTF hc hu) hg2 hm2 (by decide +kernel) (pa_cons he pa_nil s1) (by decide) (by decide) s1 l1) pa_nil s2) (by decide) (by decide) s2 l2) fun σ H Q h => by
    obtain ⟨G, ρ, s, a, p⟩ := h
    refine rdE.then a p fun x G1 H1 dx s1 a1 g1 rx p1 => ?_
    by_cases hd : isD dx = true
    · rw [if_pos hd] at p1
      unfold pSortSetP at p1
      split at p1
      · split at p1
        · rename_i ps en
          split at p1
          · rename_i hok
            unfold okUP at hok
            rw [Bool.and_eq_true, decide_eq_true_eq, List.all_eq_true] at hok
            obtain ⟨hbd, hlen⟩ := hok
            obtain ⟨l, vs, rfl, gl, dl⟩ := (rx.dg (isD_tok rfl)).of_lst
            rw [toPairs_eq en] at dl
            obtain ⟨ek, hk⟩ := pairs_of a1.sit.sub dl
            -- the keys
            let key : V → Kp := fun v => (adr v, [(kOf H1 v).1, (kOf H1 v).2])
            have hvs : vs.map (fun v => V.ref (key v).1) = vs := by
              have : ∀ v ∈ vs, V.ref (key v).1 = v := fun v hv => by
                obtain ⟨t, rfl, _⟩ := hk v hv
                rfl
              rw [List.map_congr_left this, List.map_id']
            have hin : ∀ v ∈ vs, kOf H1 v ∈ ps := fun v hv => by rw [← ek]; exact List.mem_map.mpr ⟨v, hv, rfl⟩
            have few : FewK (vs.map key) := fun L hL hn => by
              have hk2 : ∀ q ∈ L, ∃ r ∈ sortUP ps, q.2 = [r.1, r.2] := fun q hq => by
                obtain ⟨v, hv, rfl⟩ := List.mem_map.mp (hL q hq)
                exact ⟨kOf H1 v, mem_sortUP.mpr (hin v hv), rfl⟩
              have := nodup_len (L.map (·.2)) ((sortUP ps).map fun r => [r.1, r.2]) hn fun y hy => by
                obtain ⟨q, hq, rfl⟩ := List.mem_map.mp hy
                obtain ⟨r, hr, e⟩ := hk2 q hq
                exact List.mem_map.mpr ⟨r, hr, e.symm⟩
              rw [List.length_map, List.length_map] at this
              omega
            have tup : ∀ q ∈ vs.map key, SqT X.K H1 q.1 (q.2.map V.int) := fun q hq => by
              obtain ⟨v, hv, rfl⟩ := List.mem_map.mp hq
              obtain ⟨t, rfl, ht, _⟩ := hk v hv
              exact SqT.of ht
            refine ⟨l, vs.map key, rfl, ?_, tup, few, fun b L hb hL1 hL2 => ?_⟩
            · rw [List.map_map]
              show SqL X.K H1 l (vs.map fun v => V.ref (key v).1)
              rw [hvs]
              exact SqL.of (a1.sit.sub _ _ gl)
            have S2 := a1.sit.allocH (o := SetTO X.prog X.w b L) hb
            have g2 := Gr.allocH (fp := B.W.fp) (G := G1) (o := SetTO X.prog X.w b L) hb
            refine ⟨b, L, 2, 64, rfl, upd_same, fun q hq => ?_, by decide, fun q hq => ?_, fun M r pm nd few2 pw hr => ?_⟩
            · have hq2 := hL1 q hq
              obtain ⟨v, hv, rfl⟩ := List.mem_map.mp hq2
              obtain ⟨t, rfl, ht, _⟩ := hk v hv
              have hne : t ≠ b := fun z => by rw [z, hb] at ht; cases ht
              exact SqT.of (by show upd H1 b _ t = _; rw [upd_ne hne]; exact ht)
            · obtain ⟨v, hv, rfl⟩ := List.mem_map.mp (hL1 q hq)
              refine ⟨rfl, fun m hm => ?_⟩
              have := hbd _ (hin v hv)
              simp only [Bool.and_eq_true, decide_eq_true_eq] at this
              simp only [key, List.mem_cons, List.not_mem_nil, or_false] at hm
              rcases hm with rfl | rfl <;> omega
            · -- the sorted keys
              have hM : ∀ q ∈ M, ∃ v ∈ vs, q = key v := fun q hq => by
                obtain ⟨v, hv, e⟩ := List.mem_map.mp (hL1 q (pm.mem_iff.mp hq))
                exact ⟨v, hv, e.symm⟩
              have hrefs : ∀ q ∈ M, Dg G1 (V.ref q.1) (pD (kOf H1 (V.ref q.1))) ∧ q.2 = [(kOf H1 (V.ref q.1)).1, (kOf H1 (V.ref q.1)).2] := fun q hq => by
                obtain ⟨v, hv, rfl⟩ := hM q hq
                obtain ⟨t, rfl, _, hdg⟩ := hk v hv
                exact ⟨hdg, rfl⟩
              have es : M.map (fun q => kOf H1 (V.ref q.1)) = sortUP ps := by
                refine lex_ext ?_ lt_sortUP fun k => ?_
                · rw [List.pairwise_map]
                  have nd2 := List.pairwise_map.mp nd
                  refine List.Pairwise.imp_of_mem (fun {u v} hu' hv' huv => ?_) (nd2.and pw)
                  obtain ⟨hne, hle⟩ := huv
                  have e1 := (hrefs u hu').2
                  have e2 := (hrefs v hv').2
                  have b1 := hL1 u (pm.mem_iff.mp hu')
                  have b2 := hL1 v (pm.mem_iff.mp hv')
                  obtain ⟨x1, hx1, rfl⟩ := List.mem_map.mp b1
                  obtain ⟨x2, hx2, rfl⟩ := List.mem_map.mp b2
                  have c1 := hbd _ (hin x1 hx1)
                  have c2 := hbd _ (hin x2 hx2)
                  simp only [Bool.and_eq_true, decide_eq_true_eq] at c1 c2
                  have w1 : V.ref (key x1).1 = x1 := by obtain ⟨t, rfl, _⟩ := hk x1 hx1; rfl
                  have w2 : V.ref (key x2).1 = x2 := by obtain ⟨t, rfl, _⟩ := hk x2 hx2; rfl
                  rw [w1, w2]
                  exact pair_lt hle hne ⟨c1.1.1.1, c1.1.1.2⟩ ⟨c1.1.2, c1.2⟩ ⟨c2.1.1.1, c2.1.1.2⟩ ⟨c2.1.2, c2.2⟩
                · rw [mem_sortUP, List.mem_map]
                  constructor
                  · rintro ⟨q, hq, rfl⟩
                    obtain ⟨v, hv, rfl⟩ := hM q hq
                    have w1 : V.ref (key v).1 = v := by obtain ⟨t, rfl, _⟩ := hk v hv; rfl
                    rw [w1]
                    exact hin v hv
                  · intro hkp
                    rw [← ek] at hkp
                    obtain ⟨v, hv, rfl⟩ := List.mem_map.mp hkp
                    obtain ⟨q, hq, e⟩ := List.mem_map.mp (hL2 (key v) (List.mem_map.mpr ⟨v, hv, rfl⟩))
                    refine ⟨q, pm.mem_iff.mpr hq, ?_⟩
                    have e2 := (hrefs q (pm.mem_iff.mpr hq)).2
                    rw [e] at e2
                    simp only [key, List.cons.injEq, and_true] at e2
                    exact (Prod.ext e2.1 e2.2).symm
              have hd2 : DgAll G1 (M.map fun q => V.ref q.1) ((sortUP ps).map pD) := by
                rw [← es, List.map_map]
                have : ∀ N : List Kp, (∀ q ∈ N, Dg G1 (V.ref q.1) (pD (kOf H1 (V.ref q.1)))) → DgAll G1 (N.map fun q => V.ref q.1) (N.map (pD ∘ fun q => kOf H1 (V.ref q.1))) := fun N => by
                  induction N with
                  | nil => intro _; exact .nil
                  | cons q N ih => intro hN; exact .cons (hN q (by simp)) (ih fun r hr => hN r (List.mem_cons_of_mem _ hr))
                exact this M fun q hq => (hrefs q hq).1
              exact PostE.lst (ds := (sortUP ps).map pD) S2 hd2 (PostE.mono g2 p1) hr
          · exact p1.elim
        · exact p1.elim
      · exact p1.elim
    · rw [if_neg hd] at p1; exact p1.elim
end
end DL

/-! DLO: texts -/
namespace DL
open PySem PySem.Spec PyProof.Rows L2
def toStrs : List PD → Option (List Str)
  | [] => some []
  | .str a :: r => match toStrs r with
    | some l => some (a :: l)
    | none => none
  | _ => none
theorem toStrs_eq : ∀ {xs : List PD} {l : List Str}, toStrs xs = some l → xs = l.map PyData.str
  | [], l, h => by cases h; rfl
  | x :: r, l, h => by
    unfold toStrs at h
    split at h
    · rename_i e; cases e
    · rename_i e
      split at h
      · rename_i q hq
        cases h
        cases e
        rw [toStrs_eq hq]
        rfl
      · cases h
    · cases h
theorem toStrs_map : ∀ l : List Str, toStrs (l.map PyData.str) = some l
  | [] => rfl
  | a :: l => by
    show (match toStrs (l.map PyData.str) with | some q => some (a :: q) | none => none) = _
    rw [toStrs_map l]
theorem DgAll.strs {G : Hp} : ∀ {vs : List V} {l : List Str}, DgAll G vs (l.map PyData.str) → vs = l.map V.str
  | [], [], _ => rfl
  | [], _ :: _, h => by cases h
  | _ :: _, [], h => by cases h
  | v :: vs, a :: l, h => by
    cases h with
    | cons h1 h2 => rw [h1.of_str, DgAll.strs h2]; rfl
theorem DgAll.of_strs {G : Hp} : ∀ l : List Str, DgAll G (l.map V.str) (l.map PyData.str)
  | [] => .nil
  | a :: l => .cons (.str a) (DgAll.of_strs l)
section
variable {X : Cx} {B : Bs} {O : List Nat}
/-- str(int) -/
def pStr : List PD → R PD
  | [.int i] => if decide (i.natAbs.log2 < 1920) then .ok (.str (toString i)) else .bad
  | _ => .bad
theorem dc_str : CallR X (.type "str") (rdC pStr) := by
  refine CallR.by fun vs H Q h => ?_
  obtain ⟨G, ds, sb, rs, p⟩ := h
  unfold pStr at p
  split at p
  · obtain ⟨v, rfl, rv⟩ := rs.one
    split at p
    · rename_i hz
      exact ⟨_, call_str_int, _, by rw [rv.of_int], of_decide_eq_true hz, p.val sb (.str _)⟩
    · exact p.elim
  · exact p.elim
/-- int(text) -/
def pIntS : List PD → R PD
  | [.str a] => match PySem.intText? a with
    | some n => if a.length ≤ 640 then .ok (.int n) else .bad
    | none => .bad
  | _ => .bad
theorem dc_intS : CallR X (.type "int") (rdC pIntS) := by
  refine CallR.by fun vs H Q h => ?_
  obtain ⟨G, ds, sb, rs, p⟩ := h
  unfold pIntS at p
  split at p
  · obtain ⟨v, rfl, rv⟩ := rs.one
    split at p
    · rename_i n hn
      split at p
      · rename_i hl
        exact ⟨_, call_int_str, _, n, by rw [rv.of_str], hn, hl, p.val sb (.int _)⟩
      · exact p.elim
    · exact p.elim
  · exact p.elim
/-- a text's method with one argument -/
def cTxt {d : Type} (f : PD → PD → R PD) (a b : Env → d → R (PD × d)) : Env → d → R (PD × d) := fun ρ s => bnd (a ρ s) fun x s1 => match x with
  | .str z => bnd (b ρ s1) fun y s2 => if isD y then lft (isOk (f (.str z) y)) s2 else .bad
  | _ => .bad
theorem de_txt {name : Str} {id : String} {f : PD → PD → R PD} {o e : Expr} {fo fe : Mx B PD} {apos pos : Pos} (slot : Slot "str" name id) (hty : typeOf (.builtin id) = pure (.type "method_descriptor")) (hmt : MtR X id (rdM f)) (ho : DE X B O o fo) (he : DE X B O e fe)
    (hs : starEach [e] X.env = [(false, eval e X.env)] := by rfl) (hbase : attributeBase o name X.env (eval o X.env) = eval o X.env := by rfl) (hline : (apos.endLine == pos.line) = true := by rfl) : DE X B O (.Call (.Attribute o name apos) [e] [] pos) (cTxt f fo fe) :=
  PE.imp (pe_m1 slot hty hmt ho he hs hbase hline) fun σ H Q h => by
    obtain ⟨G, ρ, s, a, q⟩ := h
    refine rdE.then a q fun x G1 H1 dx s1 a1 g1 rx p1 => ?_
    cases dx with
    | str z =>
      have ex := (rx.dg (isD_tok rfl)).of_str
      refine ⟨⟨z, ex⟩, ?_⟩
      have p1 : PostE B G1 H1 (bnd (fe ρ s1) fun y s2 => if isD y then lft (isOk (f (.str z) y)) s2 else .bad) Q := p1
      refine rdE.then a1 p1 fun y G2 H2 dy s2 a2 g2 ry p2 => ?_
      by_cases hd : isD dy = true
      · rw [if_pos hd] at p2
        exact ⟨y, rfl, G2, .str z, dy, a2.sit.sub, (rx.mono g2.g).dg (isD_tok rfl), ry.dg (isD_tok hd), (PostD.of a2.sit p2 (isOk_nx _)).isOk⟩
      · rw [if_neg hd] at p2; exact p2.elim
    | _ => exact p1.elim
def pJoin : PD → PD → R PD
  | .str a, .list ds => match toStrs ds with
    | some ys => if (ys.map (·.length)).sum + ys.length * a.length ≤ 16777216 then .ok (.str (Txt.join a ys)) else .bad
    | none => .bad
  | _, _ => .bad
theorem dm_join : MtR X "str.join" (rdM pJoin) := by
  refine MtR.by fun x vs H Q h => ?_
  obtain ⟨y, rfl, G, d, e, sb, rx, ry, p⟩ := h
  unfold pJoin at p
  split at p
  · obtain ⟨a, us, rfl, ga, da⟩ := ry.of_lst
    split at p
    · rename_i ys es
      split at p
      · rename_i hz
        rw [toStrs_eq es] at da
        have e2 := da.strs
        subst e2
        exact ⟨_, mt_join, _, a, ys, rx.of_str, rfl, .inl (SqL.of (sb _ _ ga)), hz, p.val sb (.str _)⟩
      · exact p.elim
    · exact p.elim
  · exact p.elim
def pSplit : PD → PD → R PD
  | .str a, .str b => if (b.length == 0) = false ∧ a.length + 2 ≤ sizeLine then .ok (.list ((Txt.split a b).map PyData.str)) else .bad
  | _, _ => .bad
theorem dm_split : MtR X "str.split" (rdM pSplit) := by
  refine MtR.by fun x vs H Q h => ?_
  obtain ⟨y, rfl, G, d, e, sb, rx, ry, p⟩ := h
  unfold pSplit at p
  split at p
  · split at p
    · rename_i hz
      exact ⟨_, mt_split, _, _, rx.of_str, by rw [ry.of_str], hz.1, hz.2, fun q hq => p.lst sb (DgAll.of_strs _) hq⟩
    · exact p.elim
  · exact p.elim
/-- one sign in a text -/
def pInS : PD → PD → R PD
  | .str x, .str z => match x.cps.toList with
    | [c] => .ok (.bool (decide (c ∈ z.cps.toList)))
    | _ => .bad
  | _, _ => .bad
theorem dop_inS : DOp X (compareOp .In) pInS := by
  refine OpR.by fun x y H Q h => ?_
  obtain ⟨G, d, e, sb, rx, ry, p⟩ := h
  unfold pInS at p
  split at p
  · rename_i x0 z0
    split at p
    · rename_i c hc
      refine ⟨_, op_in_sign, c, z0, ?_, ry.of_str, p.val sb (.bl _)⟩
      rw [rx.of_str]
      congr 1
      obtain ⟨cps⟩ := x0
      congr 1
      exact Array.ext' (by simpa using hc)
    · exact p.elim
  · exact p.elim
/-- f"{a}c{b}" of ints -/
def cF3 {d : Type} (c : Str) (a b : Env → d → R (PD × d)) : Env → d → R (PD × d) := fun ρ s => bnd (a ρ s) fun x s1 => match x with
  | .int i => if decide (i.natAbs.log2 < 1920) = true ∧ (Str.empty ++ (toString i : Str)).length ≤ 1000 ∧ ((Str.empty ++ (toString i : Str)) ++ c).length ≤ 1000 then bnd (b ρ s1) fun y s2 => match y with
    | .int j => if decide (j.natAbs.log2 < 1920) = true ∧ (((Str.empty ++ (toString i : Str)) ++ c) ++ (toString j : Str)).length ≤ 1000 then .ok (.str (((Str.empty ++ (toString i : Str)) ++ c) ++ (toString j : Str)), s2) else .bad
    | _ => .bad
    else .bad
  | _ => .bad
theorem de_f3 {e1 e2 : Expr} {c : Str} {f1 f2 : Mx B PD} {j : Nat} {p1 p2 p3 pos : Pos} (h1 : DE X B O e1 f1) (h2 : DE X B O e2 f2) : DE X B O (.JoinedStr [.FormattedValue e1 (-1) none p1, .Constant (.str c) j p2, .FormattedValue e2 (-1) none p3] pos) (cF3 c f1 f2) :=
  PE.imp (pe_joined (.cons (pe_fmt h1) (.cons pe_str (.cons (pe_fmt h2) .nil)))) fun σ H Q h => by
    have hz : (1000 : Nat) ≤ sizeLine := by decide
    obtain ⟨G, ρ, s, a, q⟩ := h
    refine rdE.then a q fun x G1 H1 dx s1 a1 g1 rx q1 => ?_
    cases dx with
    | int i =>
      dsimp only at q1
      split at q1
      · rename_i hi
        obtain ⟨hi1, hi2, hi3⟩ := hi
        refine .inr ⟨i, (rx.dg (isD_tok rfl)).of_int, of_decide_eq_true hi1, _, rfl, Nat.le_trans hi2 hz, c, rfl, Nat.le_trans hi3 hz, ?_⟩
        refine rdE.then a1 q1 fun y G2 H2 dy s2 a2 g2 ry q2 => ?_
        cases dy with
        | int k =>
          dsimp only at q2
          split at q2
          · rename_i hk
            refine .inr ⟨k, (ry.dg (isD_tok rfl)).of_int, of_decide_eq_true hk.1, _, rfl, Nat.le_trans hk.2 hz, ?_⟩
            exact q2.done a2.sit (.inl (.str _))
          · exact q2.elim
        | _ => exact q2.elim
      · exact q1.elim
    | _ => exact q1.elim
/-- not in a tuple of texts -/
def pNotInT : PD → PD → R PD
  | .str x, .tuple ds => match toStrs ds with
    | some ys => .ok (.bool (!decide (x ∈ ys)))
    | none => .bad
  | _, _ => .bad
theorem flat_strs : ∀ ys : List Str, (ys.map V.str).all flatV = true
  | [] => rfl
  | y :: ys => by
    rw [List.map_cons, List.all_cons, flat_strs ys]
    rfl
theorem inV_strs (x : Str) : ∀ ys : List Str, inV (.str x) (ys.map V.str) = decide (x ∈ ys)
  | [] => rfl
  | y :: ys => by
    have ih := inV_strs x ys
    unfold inV at ih ⊢
    rw [List.map_cons, List.any_cons, ih]
    by_cases h : x = y
    · subst h
      simp [eqV]
    · have h2 : ¬ y = x := fun z => h z.symm
      simp [eqV, h, h2]
theorem dop_notInT : DOp X (compareOp .NotIn) pNotInT := by
  refine OpR.by fun x y H Q h => ?_
  obtain ⟨G, d, e, sb, rx, ry, p⟩ := h
  unfold pNotInT at p
  split at p
  · rename_i x0 ds
    split at p
    · rename_i ys es
      obtain ⟨a, us, rfl, ga, da⟩ := ry.of_tup
      rw [toStrs_eq es] at da
      have e2 := da.strs
      subst e2
      refine ⟨_, op_notIn_seq, a, ys.map V.str, rfl, .inr (SqT.of (sb _ _ ga)), by rw [rx.of_str]; rfl, flat_strs ys, ?_⟩
      rw [rx.of_str, inV_strs]
      exact p.val sb (.bl _)
    · exact p.elim
  · exact p.elim
end
end DL

/-! DLP: two worlds, one beside the other; objects with a state of their own -/
namespace DL
open PySem PySem.Spec PyProof.Rows L2
def Wd.and (W1 W2 : Wd) : Wd where
  d := W1.d × W2.d
  fp := fun a => W1.fp a ∨ W2.fp a
  rep := fun s G H => W1.rep s.1 G H ∧ W2.rep s.2 G H ∧ ∀ a, W1.fp a → ¬ W2.fp a
  tk := fun n => if n = 1 then W2.tk 1 else W1.tk n
  cls := W1.cls
  keep := fun h g k => ⟨W1.keep h.1 g fun a o f => k a o (.inl f), W2.keep h.2.1 g fun a o f => k a o (.inr f), h.2.2⟩
theorem Gr.fpG {fp fq : Addr → Prop} {G H G' H' : Hp} (g : Gr fp G H G' H') (h1 : ∀ a, fq a → G a = none) (h2 : ∀ a, fq a → H a ≠ none) (a : Addr) (f : fq a) : G' a = none := by
  cases e : G' a with
  | none => rfl
  | some o =>
    rcases g.new a o e with z | z
    · rw [h1 a f] at z; cases z
    · exact absurd z (h2 a f)
theorem Gr.fpH {fp fq : Addr → Prop} {G H G' H' : Hp} (g : Gr fp G H G' H') (h2 : ∀ a, fq a → H a ≠ none) (a : Addr) (f : fq a) : H' a ≠ none := fun z => h2 a f (g.dom a z)
section
variable {W1 W2 : Wd} {G H G' H' : Hp} {s : (W1.and W2).d}
theorem Sit.left (S : Sit (W1.and W2) G H s) : Sit W1 G H s.1 := ⟨S.sub, fun a f => S.fpG a (.inl f), fun a f => S.fpH a (.inl f), S.rep.1⟩
theorem Sit.right (S : Sit (W1.and W2) G H s) : Sit W2 G H s.2 := ⟨S.sub, fun a f => S.fpG a (.inr f), fun a f => S.fpH a (.inr f), S.rep.2.1⟩
theorem Sit.joinL {s1 : W1.d} (S : Sit (W1.and W2) G H s) (g : Gr W1.fp G H G' H') (S1 : Sit W1 G' H' s1) : Sit (W1.and W2) G' H' (s1, s.2) := by
  refine ⟨S1.sub, fun a f => ?_, fun a f => ?_, S1.rep, W2.keep S.rep.2.1 g.g fun a o f e => g.h a o (fun z => S.rep.2.2 a z f) e, S.rep.2.2⟩
  · exact g.fpG (fq := (W1.and W2).fp) S.fpG S.fpH a f
  · exact g.fpH (fq := (W1.and W2).fp) S.fpH a f
theorem Sit.joinR {s2 : W2.d} (S : Sit (W1.and W2) G H s) (g : Gr W2.fp G H G' H') (S2 : Sit W2 G' H' s2) : Sit (W1.and W2) G' H' (s.1, s2) := by
  refine ⟨S2.sub, fun a f => ?_, fun a f => ?_, W1.keep S.rep.1 g.g fun a o f e => g.h a o (fun z => S.rep.2.2 a f z) e, S2.rep, S.rep.2.2⟩
  · exact g.fpG (fq := (W1.and W2).fp) S.fpG S.fpH a f
  · exact g.fpH (fq := (W1.and W2).fp) S.fpH a f
/-- an object alone, beside the pure world -/
theorem Sit.alone {cls : Nat → Addr} {tk : Nat → V} {s2 : W2.d} (S : Sit W2 G H s2) : Sit ((Wp cls tk).and W2) G H ((), s2) :=
  ⟨S.sub, fun a f => f.elim (fun z => z.elim) (S.fpG a), fun a f => f.elim (fun z => z.elim) (S.fpH a), trivial, S.rep, fun _ z => z.elim⟩
theorem Gr.alone {cls : Nat → Addr} {tk : Nat → V} {fp : Addr → Prop} (g : Gr (fun a => False ∨ fp a) G H G' H') : Gr fp G H G' H' := g.weak fun _ z => z.elim (fun q => q.elim) id
end
/-! ### tokens -/
def isT (n : Int) : PD → Bool
  | .dict [(.int m, .none)] => decide (m = n)
  | _ => false
theorem isT_tok {n : Int} {k : Nat} (h : isT n (tokD k) = true) : (k : Int) = n := of_decide_eq_true h
def okT (n : Int) (d : PD) : Bool := isD d || isT n d
theorem Rp.one {W1 W2 : Wd} {G : Hp} {v : V} {d : PD} (ht : ∀ n, W2.tk n = W2.tk 1) (r : Rp (W1.and W2).tk G v d) (h : okT 1 d = true) : Rp W2.tk G v d := by
  rcases r with r | ⟨k, e, q⟩
  · exact .inl r
  · subst e
    have h2 : isT 1 (tokD k) = true := by
      unfold okT at h
      rw [show isD (tokD k) = false from rfl, Bool.false_or] at h
      exact h
    have hk : k = 1 := by have := isT_tok h2; omega
    subst hk
    exact .inr ⟨1, rfl, by rw [q]; show (if (1 : Nat) = 1 then W2.tk 1 else W1.tk 1) = _; rw [if_pos rfl]⟩
theorem Rp.zero {W1 W2 : Wd} {G : Hp} {v : V} {d : PD} (r : Rp (W1.and W2).tk G v d) (h : okT 0 d = true) : Rp W1.tk G v d := by
  rcases r with r | ⟨k, e, q⟩
  · exact .inl r
  · subst e
    have h2 : isT 0 (tokD k) = true := by
      unfold okT at h
      rw [show isD (tokD k) = false from rfl, Bool.false_or] at h
      exact h
    have hk : k = 0 := by have := isT_tok h2; omega
    subst hk
    exact .inr ⟨0, rfl, by rw [q]; show (if (0 : Nat) = 1 then W2.tk 1 else W1.tk 0) = _; rw [if_neg (by decide)]⟩
theorem RpAll.one {W1 W2 : Wd} {G : Hp} (ht : ∀ n, W2.tk n = W2.tk 1) : ∀ {vs : List V} {ds : List PD}, RpAll (W1.and W2).tk G vs ds → ds.all (okT 1) = true → RpAll W2.tk G vs ds
  | _, _, .nil, _ => .nil
  | _, _, .cons a b, h => by
    rw [List.all_cons, Bool.and_eq_true] at h
    exact .cons (a.one ht h.1) (RpAll.one ht b h.2)
theorem RpAll.zero {W1 W2 : Wd} {G : Hp} : ∀ {vs : List V} {ds : List PD}, RpAll (W1.and W2).tk G vs ds → ds.all (okT 0) = true → RpAll W1.tk G vs ds
  | _, _, .nil, _ => .nil
  | _, _, .cons a b, h => by
    rw [List.all_cons, Bool.and_eq_true] at h
    exact .cons (a.zero h.1) (RpAll.zero b h.2)
theorem Rp.isT1 {W1 W2 : Wd} {G : Hp} {v : V} {d : PD} (r : Rp (W1.and W2).tk G v d) (h : isT 1 d = true) : v = W2.tk 1 := by
  rcases r with r | ⟨k, e, q⟩
  · cases r <;> cases h
  · subst e
    have hk : k = 1 := by have := isT_tok h; omega
    subst hk
    rw [q]; show (if (1 : Nat) = 1 then W2.tk 1 else W1.tk 1) = _; rw [if_pos rfl]

/-! ### defs that are handed the object -/
def PostW (cls : Nat → Addr) (W : Wd) (G H : Hp) (r : R (PD × W.d)) (Q : VK) (E : XK) : Prop :=
  match r with
  | .ok (d, s') => ∀ v G' H', Gr W.fp G H G' H' → Sit W G' H' s' → Rp W.tk G' v d → Q v H'
  | .exc c => ∀ G' H', Gr (fun _ => False) G H G' H' → E (.ref (cls c)) none H'
  | .bad => False
def spW {ι : Type} (cls : Nat → Addr) (F : ι → Wd) (n : Nat) (m : ∀ i, List PD → (F i).d → R (PD × (F i).d)) : Sp := fun vs H Q E => ∃ (i : ι) (G : Hp) (ds : List PD) (s : (F i).d), Sit (F i) G H s ∧ RpAll (F i).tk G vs ds ∧ ds.length = n ∧ PostW cls (F i) G H (m i ds s) Q E
/-- what comes back, beside the first state -/
def outR {t1 t2 : Type} (s1 : t1) (r : R (PD × t2)) : R (PD × (t1 × t2)) := match r with
  | .ok (d, t') => if isD d then .ok (d, (s1, t')) else .bad
  | _ => .bad
def cCallW {t1 t2 : Type} (n : Nat) (m : List PD → t2 → R (PD × t2)) (a : Env → t1 × t2 → R (List PD × (t1 × t2))) : Env → t1 × t2 → R (PD × (t1 × t2)) := fun ρ s =>
  bnd (a ρ s) fun ds s1 => if ds.length = n ∧ ds.all (okT 1) = true then outR s1.1 (m ds s1.2) else .bad
section
variable {X : Cx} {O O' : List Nat} {W1 W2 : Wd} {cls : Nat → Addr} {G0 H0 : Hp} {E : XK}
theorem PostW.of {G H : Hp} {s : (W1.and W2).d} {r : R (PD × W2.d)} {Q : VK} {E' : XK} (S : Sit (W1.and W2) G H s) (p : PostE ⟨W1.and W2, G0, H0, E⟩ G H (outR s.1 r) Q) : PostW cls W2 G H r Q E' := by
  cases r with
  | bad => exact p.elim
  | exc c => exact p.elim
  | ok y =>
    obtain ⟨d, t'⟩ := y
    unfold outR at p
    dsimp only at p
    by_cases hd : isD d = true
    · rw [if_pos hd] at p
      exact fun v G' H' g S2 rv => p v G' H' (g.weak fun _ z => .inr z) (S.joinR g S2) (.inl (rv.dg (isD_tok hd)))
    · rw [if_neg hd] at p; exact p.elim
theorem de_callW {ι : Type} {F : ι → Wd} {i : ι} {k : Nat} {f : Addr} {fd : FuncData} {ps : List Str} {x : Str} {n : Nat} {m : ∀ i, List PD → (F i).d → R (PD × (F i).d)} {e : Expr} {es : List Expr} {fa : Mx ⟨W1.and (F i), G0, H0, E⟩ (List PD)} {p pos : Pos}
    (hF : FnOk X.prog X.w X.K X.mg X.base (L2.CX X.prog X.w) k f fd ps (spW cls F n m)) (hm : X.mg x = some (.ref f)) (hk : PySem.W.keepIn X.K (.ref f) = true) (hb : Binds X.K fd ps []) (ht : ∀ n, (F i).tk n = (F i).tk 1) (hr : Room k X.A) (ha : DA X ⟨W1.and (F i), G0, H0, E⟩ O (e :: es) fa) (hg : Gl X x := by rfl)
    (hdb : (x == ("__debug__" : Str)) = false := by decide) (he : starEach (e :: es) X.env = (false, eval e X.env) :: starEach es X.env := by rfl) (hpl : (backTo pos (starEach es X.env)).any (·.1) = false := by rfl) : DE X ⟨W1.and (F i), G0, H0, E⟩ O (.Call (.Name x p) (e :: es) [] pos) (cCallW (t1 := W1.d) (t2 := (F i).d) n (m i) fa) := by
  refine PE.imp (pe_call hF hr hg hm hk hb .nil passL ha hdb he hpl) fun σ H Q h => ?_
  obtain ⟨G, ρ, s, a, p⟩ := h
  refine rdA.then a p fun vs G1 H1 ds s1 a1 g1 rv p1 => ?_
  by_cases hl : ds.length = n ∧ ds.all (okT 1) = true
  · rw [if_pos hl] at p1
    rw [List.append_nil]
    exact ⟨i, G1, ds, s1.2, a1.sit.right, rv.one ht hl.2, hl.1, PostW.of a1.sit p1⟩
  · rw [if_neg hl] at p1; exact p1.elim
/-- o.m(e, ..) of the object -/
def cMethW {t1 t2 : Type} (n : Nat) (m : List PD → t2 → R (PD × t2)) (o : Env → t1 × t2 → R (PD × (t1 × t2))) (a : Env → t1 × t2 → R (List PD × (t1 × t2))) : Env → t1 × t2 → R (PD × (t1 × t2)) := fun ρ s =>
  bnd (o ρ s) fun x s0 => if isT 1 x = true then bnd (a ρ s0) fun ds s1 => if ds.length + 1 = n ∧ allD ds = true then outR s1.1 (m (tokD 1 :: ds) s1.2) else .bad else .bad
/-- the object is an instance of the class C, as m wants it -/
def IsInsM (W2 : Wd) (C : Addr) (m : Str) : Prop := ∀ {s : W2.d} {G H : Hp}, W2.rep s G H → ∃ a dx fs, W2.tk 1 = .ref a ∧ H a = some (.ins C dx fs) ∧ fs.lookup m = none
theorem de_methW {ι : Type} {F : ι → Wd} {i : ι} {k : Nat} {f C : Addr} {fd : FuncData} {ps : List Str} {mn : Str} {n : Nat} {m : ∀ i, List PD → (F i).d → R (PD × (F i).d)} {o e : Expr} {es : List Expr} {fo : Mx ⟨W1.and (F i), G0, H0, E⟩ PD} {fa : Mx ⟨W1.and (F i), G0, H0, E⟩ (List PD)} {apos pos : Pos} {pl : Sem Bool}
    (hF : FnOk X.prog X.w X.K X.mg X.base (L2.CX X.prog X.w) k f fd ps (spW cls F n m)) (hc : Cls X.K C) (hm : Meth X.K C mn f) (hb : Binds X.K fd ps []) (hi : IsInsM (F i) C mn) (ht : ∀ n, (F i).tk n = (F i).tk 1) (hr : Room k X.A) (ho : DE X ⟨W1.and (F i), G0, H0, E⟩ O o fo) (ha : DA X ⟨W1.and (F i), G0, H0, E⟩ O (e :: es) fa)
    (hst : starEach (e :: es) X.env = (false, eval e X.env) :: starEach es X.env := by rfl) (hpl : (backTo pos (starEach es X.env)).any (·.1) = false := by rfl)
    (hev : eval (.Call (.Attribute o mn apos) (e :: es) [] pos) X.env = (do
      let ov ← eval o X.env
      standAt apos.atName
      let (f, first) ← holding [ov] (getMethod ov mn pl)
      callWith pos f first (backTo pos (starEach (e :: es) X.env)) (backToKw pos (keywordEach [] X.env))) := by rfl) :
    DE X ⟨W1.and (F i), G0, H0, E⟩ O (.Call (.Attribute o mn apos) (e :: es) [] pos) (cMethW (t1 := W1.d) (t2 := (F i).d) n (m i) fo fa) := by
  refine PE.imp (pe_meth ho hc hm hF hr hb .nil passL ha hst hpl hev) fun σ H Q h => ?_
  obtain ⟨G, ρ, s, a, p⟩ := h
  refine rdE.then a p fun v G1 H1 dx s1 a1 g1 rx p1 => ?_
  by_cases hd : isT 1 dx = true
  · rw [if_pos hd] at p1
    have hv := rx.isT1 hd
    obtain ⟨y, dy, fs, e1, e2, e3⟩ := hi a1.sit.rep.2.1
    refine ⟨y, dy, fs, hv.trans e1, e2, e3, ?_⟩
    refine rdA.then a1 p1 fun vs G2 H2 ds s2 a2 g2 rv p2 => ?_
    by_cases hl : ds.length + 1 = n ∧ allD ds = true
    · rw [if_pos hl] at p2
      rw [List.append_nil]
      exact ⟨i, G2, tokD 1 :: ds, s2.2, a2.sit.right, .cons (.inr ⟨1, rfl, hv⟩) (DgAll.rp (rv.dg hl.2)), hl.1, PostW.of a2.sit p2⟩
    · rw [if_neg hl] at p2; exact p2.elim
  · rw [if_neg hd] at p1; exact p1.elim
def cMethW0 {t1 t2 : Type} (m : List PD → t2 → R (PD × t2)) (o : Env → t1 × t2 → R (PD × (t1 × t2))) : Env → t1 × t2 → R (PD × (t1 × t2)) := fun ρ s =>
  bnd (o ρ s) fun x s1 => if isT 1 x = true then outR s1.1 (m [tokD 1] s1.2) else .bad
theorem de_methW0 {ι : Type} {F : ι → Wd} {i : ι} {k : Nat} {f C : Addr} {fd : FuncData} {ps : List Str} {mn : Str} {m : ∀ i, List PD → (F i).d → R (PD × (F i).d)} {o : Expr} {fo : Mx ⟨W1.and (F i), G0, H0, E⟩ PD} {apos pos : Pos} {pl : Sem Bool}
    (hF : FnOk X.prog X.w X.K X.mg X.base (L2.CX X.prog X.w) k f fd ps (spW cls F 1 m)) (hc : Cls X.K C) (hm : Meth X.K C mn f) (hb : Binds X.K fd ps []) (hi : IsInsM (F i) C mn) (ht : ∀ n, (F i).tk n = (F i).tk 1) (hr : Room k X.A) (ho : DE X ⟨W1.and (F i), G0, H0, E⟩ O o fo)
    (hev : eval (.Call (.Attribute o mn apos) [] [] pos) X.env = (do
      let ov ← eval o X.env
      standAt apos.atName
      let (f, first) ← holding [ov] (getMethod ov mn pl)
      callWith pos f first (backTo pos (starEach [] X.env)) (backToKw pos (keywordEach [] X.env))) := by rfl) :
    DE X ⟨W1.and (F i), G0, H0, E⟩ O (.Call (.Attribute o mn apos) [] [] pos) (cMethW0 (t1 := W1.d) (t2 := (F i).d) (m i) fo) := by
  refine PE.imp (pe_meth0 ho hc hm hF hr hb .nil passL hev) fun σ H Q h => ?_
  obtain ⟨G, ρ, s, a, p⟩ := h
  refine rdE.then a p fun v G1 H1 dx s1 a1 g1 rx p1 => ?_
  by_cases hd : isT 1 dx = true
  · rw [if_pos hd] at p1
    have hv := rx.isT1 hd
    obtain ⟨y, dy, fs, e1, e2, e3⟩ := hi a1.sit.rep.2.1
    exact ⟨y, dy, fs, hv.trans e1, e2, e3, i, G1, [tokD 1], s1.2, a1.sit.right, .cons (.inr ⟨1, rfl, hv⟩) .nil, rfl, PostW.of a1.sit p1⟩
  · rw [if_neg hd] at p1; exact p1.elim
end
/-! ### a draw beside an object -/
def cCallD2 {t2 : Type} (n : Nat) (m : List PD → Dr → R (PD × Dr)) (a : Env → Dr × t2 → R (List PD × (Dr × t2))) : Env → Dr × t2 → R (PD × (Dr × t2)) := fun ρ s =>
  bnd (a ρ s) fun ds s1 => if ds.length = n ∧ ds.all (okT 0) = true then (match m ds s1.1 with
    | .ok (d, s') => if isD d then .ok (d, (s', s1.2)) else .bad
    | _ => .bad) else .bad
section
variable {X : Cx} {O O' : List Nat} {W2 : Wd} {cls : Nat → Addr} {da db : Addr} {G0 H0 : Hp} {E : XK}
theorem de_callD2 {k : Nat} {x : Str} {n : Nat} {m : List PD → Dr → R (PD × Dr)} {e : Expr} {es : List Expr} {fa : Mx ⟨(Wdr cls da db).and W2, G0, H0, E⟩ (List PD)} {p pos : Pos} (F : FnD X.prog X.w X.K X.mg X.base cls k x n m) (hr : Room k X.A) (ha : DA X ⟨(Wdr cls da db).and W2, G0, H0, E⟩ O (e :: es) fa) (hg : Gl X x := by rfl)
    (hdb : (x == ("__debug__" : Str)) = false := by decide) (he : starEach (e :: es) X.env = (false, eval e X.env) :: starEach es X.env := by rfl) (hpl : (backTo pos (starEach es X.env)).any (·.1) = false := by rfl) : DE X ⟨(Wdr cls da db).and W2, G0, H0, E⟩ O (.Call (.Name x p) (e :: es) [] pos) (cCallD2 (t2 := W2.d) n m fa) := by
  obtain ⟨f, fd, ps, hF, hm, hk, hb⟩ := F.ex
  refine PE.imp (pe_call hF hr hg hm hk hb .nil passL ha hdb he hpl) fun σ H Q h => ?_
  obtain ⟨G, ρ, s, a, p⟩ := h
  refine rdA.then a p fun vs G1 H1 ds s1 a1 g1 rv p1 => ?_
  by_cases hl : ds.length = n ∧ ds.all (okT 0) = true
  · rw [if_pos hl] at p1
    rw [List.append_nil]
    refine ⟨da, db, G1, ds, s1.1, a1.sit.left, rv.zero hl.2, hl.1, ?_⟩
    cases e : m ds s1.1 with
    | bad => rw [e] at p1; exact p1.elim
    | exc c => rw [e] at p1; exact p1.elim
    | ok y =>
      obtain ⟨d, s'⟩ := y
      rw [e] at p1
      dsimp only at p1
      by_cases hd : isD d = true
      · rw [if_pos hd] at p1
        exact fun v G' H' g S rv => p1 v G' H' (g.weak fun _ z => .inl z) (a1.sit.joinL g S) (.inl (rv.dg (isD_tok hd)))
      · rw [if_neg hd] at p1; exact p1.elim
  · rw [if_neg hl] at p1; exact p1.elim
end
end DL

/-! the mirrors, second part, printed by gen.py -/
namespace DL
open PySem PySem.Spec PyProof.Rows L2

def b__law_error : Env → Nat → R (Fl × Nat) :=
      (sSeq (sSet 1 (cLst (aCons (cIsE (fun c => decide (c = 0)) (cVar 0)) (aCons (cIsE (fun c => decide (c = 1)) (cVar 0)) (aCons (cIsE (fun c => decide (c = 2)) (cVar 0)) aNil)))))
      (sSeq (sSet 1 (cOp pAdd (cVar 1) (cLst (aCons (cIsE (fun c => decide (c = 3)) (cVar 0)) (aCons (cIsE (fun c => decide (c = 4)) (cVar 0)) aNil)))))
      (sSeq (sIf (cOrT (cTest (cOp pNe (cMeth pCount (cVar 1) (cC (.bool true))) (cC (.int 1)))) (cOrT (cNotT (cTest (cIsE (fun _ => true) (cVar 0)))) (cNotT (cTest (cIsE (fun _ => true) (cVar 0))))))
      (sRet (cC (.str "odd")))
      sNil)
      (sRet (cOp pIx (cLst (aCons (cC (.str "things")) (aCons (cC (.str "number")) (aCons (cC (.str "points")) (aCons (cC (.str "text")) (aCons (cC (.str "none")) aNil)))))) (cMeth pIndex (cVar 1) (cC (.bool true))))))))
def b__law_area {d : Type} : Env → d → R (Fl × d) :=
      (sSeq (sSet 1 (cC .none))
      (sSeq (sSet 2 (cC .none))
      (sTry (sSet 1 (cCallF 1 m_area (aCons (cVar 0) aNil))) 2 (cVar 1) errN)))
def m__law_area : List PD → R PD := mBody 3 b__law_area
def b__law_ever {d : Type} : Env → d → R (Fl × d) :=
      (sSeq (sSet 2 (cC .none))
      (sSeq (sSet 3 (cC .none))
      (sTry (sSet 2 (cCallF 2 m_is_ever_best (aCons (cVar 0) (aCons (cVar 1) aNil)))) 3 (cVar 2) errN)))
def m__law_ever : List PD → R PD := mBody 3 b__law_ever
end DL

/-! the mirrors, third part, printed by gen.py -/
namespace DL
open PySem PySem.Spec PyProof.Rows L2

def b_parse_number {d : Type} : Env → d → R (Fl × d) :=
      (sSeq (sIf (cOrT (cNotT (cTest (cChain pLe pLe (cC (.int 1)) (cCall pLen (aCons (cVar 0) aNil)) (cC (.int 2))))) (cOrT (cNotT (cTest (cCall pAll (aCons (cComp (iSt (cVar 0)) (bNm 1) [1] tYesD (cOp pInS (cVar 1) (cC (.str "0123456789")))) aNil)))) (cTest (cOp pNe (cCall pStr (aCons (cCall pIntS (aCons (cVar 0) aNil)) aNil)) (cVar 0)))))
      (sRaise 3)
      sNil)
      (sRet (cCall pIntS (aCons (cVar 0) aNil))))
def m_parse_number : List PD → R PD := mBody 1 b_parse_number
def b__law_written {d : Type} : Env → d → R (Fl × d) :=
      (sSeq (sIf (cTest (cOp pEq (cVar 0) (cC (.int 0))))
      (sRet (cTxt pJoin (cC (.str " ")) (cComp (iLst (cVar 1)) (bTup (bCons (bNm 4) (bCons (bNm 5) bNil))) [4, 5] tYesD (cOp pAdd (cCall pStr (aCons (cVar 4) aNil)) (cIf (cTest (cVar 5)) (cC (.str "+")) (cC (.str "-")))))))
      sNil)
      (sRet (cTxt pJoin (cC (.str " ")) (cComp (iLst (cVar 1)) (bTup (bCons (bNm 2) (bCons (bNm 3) bNil))) [2, 3] tYesD (cOp pAdd (cOp pAdd (cCall pStr (aCons (cVar 2) aNil)) (cC (.str ":"))) (cCall pStr (aCons (cVar 3) aNil)))))))
def m__law_written : List PD → R PD := mBody 4 b__law_written
def b_parse_points {d : Type} : Env → d → R (Fl × d) :=
      (sSeq (sExpr (cCallF 1 m_check_text (aCons (cVar 0) aNil)))
      (sSeq (sSetF 1 (fLst aNil))
      (sSeq (sFor (iLst (cTxt pSplit (cVar 0) (cC (.str " ")))) (bNm 2)
      (sSeq (sSet 3 (cTxt pSplit (cVar 2) (cC (.str ":"))))
      (sSeq (sIf (cTest (cOp pNe (cCall pLen (aCons (cVar 3) aNil)) (cC (.int 2))))
      (sRaise 3)
      sNil)
      (sApp 1 (cTup (aCons (cCallF 1 m_parse_number (aCons (cOp pIx (cVar 3) (cC (.int 0))) aNil)) (aCons (cCallF 1 m_parse_number (aCons (cOp pIx (cVar 3) (cC (.int 1))) aNil)) aNil)))))))
      (sSeq (sIf (cNotT (cTest (cCallF 1 m_is_points (aCons (cVar 1) aNil))))
      (sRaise 3)
      sNil)
      (sRet (cVar 1))))))
def m_parse_points : List PD → R PD := mBody 3 b_parse_points
def b_parse_things {d : Type} : Env → d → R (Fl × d) :=
      (sSeq (sExpr (cCallF 1 m_check_text (aCons (cVar 0) aNil)))
      (sSeq (sSetF 1 (fLst aNil))
      (sSeq (sFor (iLst (cTxt pSplit (cVar 0) (cC (.str " ")))) (bNm 2)
      (sSeq (sIf (cTest (cOp pNotInT (cSl pSl (cVar 2) (oSome (cUn pNeg (cC (.int 1)))) oNone) (cTup (aCons (cC (.str "+")) (aCons (cC (.str "-")) aNil)))))
      (sRaise 3)
      sNil)
      (sApp 1 (cTup (aCons (cCallF 1 m_parse_number (aCons (cSl pSl (cVar 2) oNone (oSome (cUn pNeg (cC (.int 1))))) aNil)) (aCons (cOp pEq (cOp pIx (cVar 2) (cUn pNeg (cC (.int 1)))) (cC (.str "+"))) aNil))))))
      (sSeq (sIf (cNotT (cTest (cCallF 1 m_is_things (aCons (cVar 1) aNil))))
      (sRaise 3)
      sNil)
      (sRet (cVar 1))))))
def m_parse_things : List PD → R PD := mBody 2 b_parse_things
def b_format_points {d : Type} : Env → d → R (Fl × d) :=
      (sSeq (sExpr (cCallF 1 m_check_points (aCons (cVar 0) aNil)))
      (sRet (cTxt pJoin (cC (.str " ")) (cComp (iLst (cVar 0)) (bTup (bCons (bNm 1) (bCons (bNm 2) bNil))) [1, 2] tYesD (cF3 ":" (cVar 1) (cVar 2))))))
def m_format_points : List PD → R PD := mBody 2 b_format_points
def b_format_things {d : Type} : Env → d → R (Fl × d) :=
      (sSeq (sExpr (cCallF 1 m_check_things (aCons (cVar 0) aNil)))
      (sRet (cTxt pJoin (cC (.str " ")) (cComp (iLst (cVar 0)) (bTup (bCons (bNm 1) (bCons (bNm 2) bNil))) [1, 2] tYesD (cOp pAdd (cCall pStr (aCons (cVar 1) aNil)) (cIf (cTest (cVar 2)) (cC (.str "+")) (cC (.str "-"))))))))
def m_format_things : List PD → R PD := mBody 2 b_format_things
def b__law_parsed {d : Type} : Env → d → R (Fl × d) :=
      (sSeq (sSet 2 (cC .none))
      (sSeq (sSet 3 (cC .none))
      (sTry (sSet 2 (cIf (cTest (cOp pEq (cVar 0) (cC (.int 0)))) (cCallF 1 m_parse_things (aCons (cVar 1) aNil)) (cCallF 1 m_parse_points (aCons (cVar 1) aNil)))) 3 (cVar 2) errN)))
def m__law_parsed : List PD → R PD := mBody 3 b__law_parsed
def b__law_rejected {d : Type} : Env → d → R (Fl × d) :=
      (sSeq (sSet 0 (cLst (aCons (cC .none) (aCons (cC (.int 5)) (aCons (cC (.str "")) (aCons (cC (.str " ")) (aCons (cC (.str "1")) (aCons (cC (.str "+")) (aCons (cC (.str "1+ ")) (aCons (cC (.str " 1+")) (aCons (cC (.str "1+  2-")) (aCons (cC (.str "01+")) (aCons (cC (.str "+1+")) (aCons (cC (.str "-1-")) (aCons (cC (.str "a+")) (aCons (cC (.str "100+")) (aCons (cC (.str "1*")) (aCons (cC (.str "1++")) (aCons (cC (.str "1 +")) (aCons (cTxt pJoin (cC (.str " ")) (cOp pMul (cLst (aCons (cC (.str "0+")) aNil)) (cC (.int 13)))) aNil))))))))))))))))))))
      (sSeq (sIf (cOrT (cTest (cOp pNe (cComp (iLst (cVar 0)) (bNm 1) [1] tYesD (cCallF 2 m__law_parsed (aCons (cC (.int 0)) (aCons (cVar 1) aNil)))) (cOp pMul (cLst (aCons (cC (.str "text")) aNil)) (cC (.int 18))))) (cTest (cOp pNe (cCallF 2 m__law_parsed (aCons (cC (.int 0)) (aCons (cC (.str "99+ 0-")) aNil))) (cLst (aCons (cTup (aCons (cC (.int 99)) (aCons (cC (.bool true)) aNil))) (aCons (cTup (aCons (cC (.int 0)) (aCons (cC (.bool false)) aNil))) aNil))))))
      (sRet (cC (.bool false)))
      sNil)
      (sSeq (sSet 0 (cLst (aCons (cC .none) (aCons (cC (.int 5)) (aCons (cC (.str "")) (aCons (cC (.str "0:0")) (aCons (cC (.str "0:0 ")) (aCons (cC (.str "0:0 0:0")) (aCons (cC (.str "0:0 1")) (aCons (cC (.str "1:1")) (aCons (cC (.str "0:1 1:1")) (aCons (cC (.str "0:0 1:1 0:2")) (aCons (cC (.str "0:0 1:1 1:1")) (aCons (cC (.str "0:0 01:1")) (aCons (cC (.str "0:0 13:0")) (aCons (cC (.str "0:0 7:6")) (aCons (cC (.str "0:0 1:1:1")) (aCons (cC (.str "0:0 a:b")) (aCons (cC (.str "0:0  1:1")) (aCons (cC (.str "0:0 -1:1")) aNil))))))))))))))))))))
      (sRet (cAndV (cOp pEq (cComp (iLst (cVar 0)) (bNm 1) [1] tYesD (cCallF 2 m__law_parsed (aCons (cC (.int 1)) (aCons (cVar 1) aNil)))) (cOp pMul (cLst (aCons (cC (.str "text")) aNil)) (cC (.int 18)))) (cOp pEq (cCallF 2 m__law_parsed (aCons (cC (.int 1)) (aCons (cC (.str "0:0 12:0")) aNil))) (cLst (aCons (cTup (aCons (cC (.int 0)) (aCons (cC (.int 0)) aNil))) (aCons (cTup (aCons (cC (.int 12)) (aCons (cC (.int 0)) aNil))) aNil)))))))))
def m__law_rejected : List PD → R PD := mBody 2 b__law_rejected
def b__law_one {d : Type} : Env → d → R (Fl × d) :=
      (sSeq (sIf (cTest (cOp pEq (cVar 0) (cC (.int 0))))
      (sRet (cCallF 1 m_unlike_scores (aCons (cVar 1) aNil)))
      sNil)
      (sSeq (sIf (cTest (cOp pEq (cVar 0) (cC (.int 1))))
      (sRet (cCallF 1 m_totals (aCons (cVar 1) aNil)))
      sNil)
      (sSeq (sIf (cTest (cOp pEq (cVar 0) (cC (.int 2))))
      (sRet (cCallF 1 m_curve (aCons (cVar 1) aNil)))
      sNil)
      (sSeq (sIf (cTest (cOp pEq (cVar 0) (cC (.int 3))))
      (sRet (cCallF 1 m_pair_counts (aCons (cVar 1) aNil)))
      sNil)
      (sSeq (sIf (cTest (cOp pEq (cVar 0) (cC (.int 4))))
      (sRet (cCallF 1 m_in_order (aCons (cVar 1) aNil)))
      sNil)
      (sSeq (sIf (cTest (cOp pEq (cVar 0) (cC (.int 5))))
      (sRet (cCallF 1 m_wrong_pairs (aCons (cVar 1) aNil)))
      sNil)
      (sSeq (sIf (cTest (cOp pEq (cVar 0) (cC (.int 6))))
      (sRet (cCallF 1 m_hull (aCons (cVar 1) aNil)))
      sNil)
      (sSeq (sIf (cTest (cOp pEq (cVar 0) (cC (.int 7))))
      (sRet (cCallF 1 m_waste (aCons (cVar 1) aNil)))
      sNil)
      (sSeq (sIf (cTest (cOp pEq (cVar 0) (cC (.int 8))))
      (sRet (cCallF 1 m_is_bent (aCons (cVar 1) aNil)))
      sNil)
      (sSeq (sIf (cTest (cOp pEq (cVar 0) (cC (.int 9))))
      (sRet (cCallF 1 m_cost_ranges (aCons (cVar 1) aNil)))
      sNil)
      (sSeq (sIf (cTest (cOp pEq (cVar 0) (cC (.int 10))))
      (sRet (cCallF 1 m_pools (aCons (cVar 1) aNil)))
      sNil)
      (sSeq (sIf (cTest (cOp pEq (cVar 0) (cC (.int 11))))
      (sRet (cCallF 1 m_shares (aCons (cVar 1) aNil)))
      sNil)
      (sSeq (sIf (cTest (cOp pEq (cVar 0) (cC (.int 12))))
      (sRet (cCallF 1 m_squared_error (aCons (cVar 1) aNil)))
      sNil)
      (sSeq (sIf (cTest (cOp pEq (cVar 0) (cC (.int 13))))
      (sRet (cCallF 1 m_is_pooled (aCons (cVar 1) aNil)))
      sNil)
      (sSeq (sIf (cTest (cOp pEq (cVar 0) (cC (.int 14))))
      (sRet (cCallF 1 m_turned_over (aCons (cVar 1) aNil)))
      sNil)
      (sSeq (sIf (cTest (cOp pEq (cVar 0) (cC (.int 15))))
      (sRet (cCallF 1 m_exchanged (aCons (cVar 1) aNil)))
      sNil)
      (sRet (cIf (cTest (cOp pEq (cVar 0) (cC (.int 16)))) (cCallF 1 m_format_things (aCons (cVar 1) aNil)) (cCallF 1 m_area (aCons (cVar 1) aNil))))))))))))))))))))
def m__law_one : List PD → R PD := mBody 0 b__law_one
def b__law_asked {d : Type} : Env → d → R (Fl × d) :=
      (sSeq (sSet 5 (cC .none))
      (sTry (sIf (cTest (cOp pEq (cVar 0) (cC (.int 1))))
      (sExpr (cCallF 2 m__law_one (aCons (cVar 1) (aCons (cVar 2) aNil))))
      (sExpr (cCallF 4 m__law_two (aCons (cVar 1) (aCons (cVar 2) (aCons (cVar 3) (aCons (cVar 4) aNil))))))) 5 (cC (.str "done")) errN))
def m__law_asked : List PD → R PD := mBody 2 b__law_asked
def b__law_limits {d : Type} : Env → d → R (Fl × d) :=
      (sSeq (sSet 1 (cLst (aCons (cTup (aCons (cC (.int 0)) (aCons (cC (.int 0)) (aCons (cC (.int 100)) aNil)))) (aCons (cTup (aCons (cC (.int 1)) (aCons (cC (.int 0)) (aCons (cC (.int 12)) aNil)))) (aCons (cTup (aCons (cC (.int 2)) (aCons (cC (.int 0)) (aCons (cC (.int 12)) aNil)))) (aCons (cTup (aCons (cC (.int 3)) (aCons (cC (.int 0)) (aCons (cC (.int 1000)) aNil)))) (aCons (cTup (aCons (cC (.int 4)) (aCons (cC (.int 0)) (aCons (cC (.int 1000)) aNil)))) (aCons (cTup (aCons (cC (.int 5)) (aCons (cC (.int 0)) (aCons (cC (.int 1000)) aNil)))) (aCons (cTup (aCons (cC (.int 6)) (aCons (cC (.int 0)) (aCons (cC (.int 1000)) aNil)))) (aCons (cTup (aCons (cC (.int 7)) (aCons (cC (.int 0)) (aCons (cC (.int 100)) aNil)))) (aCons (cTup (aCons (cC (.int 8)) (aCons (cC (.int 0)) (aCons (cC (.int 100)) aNil)))) aNil)))))))))))
      (sSeq (sFor (iLst (cVar 1)) (bTup (bCons (bNm 3) (bCons (bNm 4) (bCons (bNm 5) bNil))))
      (sSeq (sIf (cTest (cOp pNe (cComp (iTp (cTup (aCons (cC .none) (aCons (cOp pSub (cVar 4) (cC (.int 1))) (aCons (cOp pAdd (cVar 5) (cC (.int 1))) (aCons (cC (.bool true)) (aCons (cCall pStr (aCons (cVar 4) aNil)) aNil))))))) (bNm 2) [2] tYesD (cCallF 5 m__law_asked (aCons (cC (.int 2)) (aCons (cVar 3) (aCons (cVar 0) (aCons (cVar 2) (aCons (cC (.int 1)) aNil))))))) (cOp pMul (cLst (aCons (cC (.str "number")) aNil)) (cC (.int 5)))))
      (sRet (cC (.bool false)))
      sNil)
      (sIf (cTest (cOp pNe (cComp (iTp (cTup (aCons (cVar 4) (aCons (cVar 5) aNil)))) (bNm 7) [7] tYesD (cCallF 5 m__law_asked (aCons (cC (.int 2)) (aCons (cVar 3) (aCons (cVar 0) (aCons (cVar 7) (aCons (cC (.int 1)) aNil))))))) (cOp pMul (cLst (aCons (cC (.str "done")) aNil)) (cC (.int 2)))))
      (sRet (cC (.bool false)))
      sNil)))
      (sSeq (sFor (iLst (cLst (aCons (cTup (aCons (cC (.int 3)) (aCons (cC (.int 0)) (aCons (cC (.int 1000)) aNil)))) (aCons (cTup (aCons (cC (.int 4)) (aCons (cC (.int 0)) (aCons (cC (.int 1000)) aNil)))) (aCons (cTup (aCons (cC (.int 5)) (aCons (cC (.int 0)) (aCons (cC (.int 1000)) aNil)))) (aCons (cTup (aCons (cC (.int 6)) (aCons (cC (.int 0)) (aCons (cC (.int 1000)) aNil)))) (aCons (cTup (aCons (cC (.int 7)) (aCons (cC (.int 0)) (aCons (cC (.int 1000)) aNil)))) (aCons (cTup (aCons (cC (.int 8)) (aCons (cC (.int 0)) (aCons (cC (.int 100)) aNil)))) aNil)))))))) (bTup (bCons (bNm 3) (bCons (bNm 4) (bCons (bNm 5) bNil))))
      (sSeq (sIf (cTest (cOp pNe (cComp (iTp (cTup (aCons (cC .none) (aCons (cOp pSub (cVar 4) (cC (.int 1))) (aCons (cOp pAdd (cVar 5) (cC (.int 1))) (aCons (cC (.bool true)) (aCons (cCall pStr (aCons (cVar 4) aNil)) aNil))))))) (bNm 2) [2] tYesD (cCallF 5 m__law_asked (aCons (cC (.int 2)) (aCons (cVar 3) (aCons (cVar 0) (aCons (cC (.int 1)) (aCons (cVar 2) aNil))))))) (cOp pMul (cLst (aCons (cC (.str "number")) aNil)) (cC (.int 5)))))
      (sRet (cC (.bool false)))
      sNil)
      (sIf (cTest (cOp pNe (cComp (iTp (cTup (aCons (cVar 4) (aCons (cVar 5) aNil)))) (bNm 7) [7] tYesD (cCallF 5 m__law_asked (aCons (cC (.int 2)) (aCons (cVar 3) (aCons (cVar 0) (aCons (cC (.int 1)) (aCons (cVar 7) aNil))))))) (cOp pMul (cLst (aCons (cC (.str "done")) aNil)) (cC (.int 2)))))
      (sRet (cC (.bool false)))
      sNil)))
      (sSeq (sFor (iLst (cLst (aCons (cC .none) (aCons (cC (.int 5)) (aCons (cTup (aCons (cC (.int 1)) aNil)) (aCons (cLst (aCons (cC (.int 1)) (aCons (cC (.int 2)) aNil))) (aCons (cTup (aCons (cC (.int 1)) (aCons (cC (.int 0)) aNil))) (aCons (cTup (aCons (cC (.int 2)) (aCons (cC (.int 4)) aNil))) (aCons (cTup (aCons (cOp pSub (cC (.int 0)) (cC (.int 1))) (aCons (cC (.int 2)) aNil))) (aCons (cTup (aCons (cC (.bool true)) (aCons (cC (.int 1)) aNil))) (aCons (cTup (aCons (cC (.int 5)) (aCons (cC (.int 2)) aNil))) (aCons (cTup (aCons (cC (.int 1)) (aCons (cC (.int 1001)) aNil))) (aCons (cTup (aCons (cC (.int 0)) (aCons (cC (.int 2)) aNil))) aNil))))))))))))) (bNm 2)
      (sIf (cTest (cOp pNe (cComp (iTp (cTup (aCons (cC (.int 9)) (aCons (cC (.int 10)) (aCons (cC (.int 11)) aNil))))) (bNm 6) [6] tYesD (cCallF 5 m__law_asked (aCons (cC (.int 2)) (aCons (cVar 6) (aCons (cVar 0) (aCons (cVar 2) (aCons (cC (.int 0)) aNil))))))) (cOp pMul (cLst (aCons (cC (.str "number")) aNil)) (cC (.int 3)))))
      (sRet (cC (.bool false)))
      sNil))
      (sRet (cOp pEq (cComp (iTp (cTup (aCons (cC (.int 9)) (aCons (cC (.int 10)) (aCons (cC (.int 11)) aNil))))) (bNm 6) [6] tYesD (cCallF 5 m__law_asked (aCons (cC (.int 2)) (aCons (cVar 6) (aCons (cVar 0) (aCons (cTup (aCons (cC (.int 2)) (aCons (cC (.int 1)) aNil))) (aCons (cC (.int 0)) aNil))))))) (cOp pMul (cLst (aCons (cC (.str "done")) aNil)) (cC (.int 3)))))))))
def m__law_limits : List PD → R PD := mBody 7 b__law_limits
end DL

/-! DLQ: the class Watch: its world, its promises -/
namespace DL
open PySem PySem.Spec PyProof.Rows L2
theorem tl_ : ¬ (("threshold" : Str) = "line") := by decide +kernel
theorem lt_ : ¬ (("line" : Str) = "threshold") := by decide +kernel
def wf (l : Addr) (t : Int) : List (Str × V) := putF "line" (.ref l) (putF "threshold" (.int t) [])
theorem wf_eq (l : Addr) (t : Int) : wf l t = ([("threshold", V.int t), ("line", V.ref l)] : List (Str × V)) := by
  show (if ("threshold" : Str) = "line" then [(("threshold" : Str), V.ref l)] else (("threshold" : Str), V.int t) :: putF "line" (V.ref l) []) = ([("threshold", V.int t), ("line", V.ref l)] : List (Str × V))
  rw [if_neg tl_]
  all_goals rfl
theorem wf_line (l : Addr) (t : Int) : (wf l t).lookup ("line" : Str) = some (.ref l) := by
  unfold wf
  rw [lookup_putF, if_pos rfl]
theorem wf_thr (l : Addr) (t : Int) : (wf l t).lookup ("threshold" : Str) = some (.int t) := by
  unfold wf
  rw [lookup_putF, if_neg tl_, lookup_putF, if_pos rfl]
theorem wf_no (l : Addr) (t : Int) {m : Str} (h1 : ¬ m = "line") (h2 : ¬ m = "threshold") : (wf l t).lookup m = none := by
  unfold wf
  rw [lookup_putF, if_neg h1, lookup_putF, if_neg h2]
  all_goals rfl
theorem wf_put (l : Addr) (t u : Int) : putF "threshold" (.int u) (wf l t) = wf l u := by
  rw [wf_eq, wf_eq]
  show (if ("threshold" : Str) = "threshold" then (("threshold" : Str), V.int u) :: [(("line" : Str), V.ref l)] else _) = ([("threshold", V.int u), ("line", V.ref l)] : List (Str × V))
  rw [if_pos rfl]
abbrev Wt := Int × List PD
/-- a watch: its threshold, the things that came -/
def Ww (cls : Nat → Addr) (C : Addr) (i : Addr × Addr × Addr) : Wd where
  d := Wt
  fp := fun a => a = i.1 ∨ a = i.2.1 ∨ a = i.2.2
  rep := fun s G H => (i.1 ≠ i.2.1 ∧ i.1 ≠ i.2.2 ∧ i.2.1 ≠ i.2.2) ∧ H i.1 = some (.ins C i.2.1 (wf i.2.2 s.1)) ∧ H i.2.1 = some (.own i.1) ∧ ∃ vs, H i.2.2 = some (.lst vs) ∧ DgAll G vs s.2
  tk := fun _ => .ref i.1
  cls := cls
  keep := fun ⟨n, a, b, vs, c, d⟩ g k => ⟨n, k _ _ (.inl rfl) a, k _ _ (.inr (.inl rfl)) b, vs, k _ _ (.inr (.inr rfl)) c, d.mono g⟩
/-- .. while its list is only read -/
def Wro (cls : Nat → Addr) (C : Addr) (i : Addr × Addr × Addr) : Wd where
  d := Wt
  fp := fun a => a = i.1 ∨ a = i.2.1
  rep := fun s G H => (i.1 ≠ i.2.1 ∧ i.1 ≠ i.2.2 ∧ i.2.1 ≠ i.2.2) ∧ H i.1 = some (.ins C i.2.1 (wf i.2.2 s.1)) ∧ H i.2.1 = some (.own i.1) ∧ ∃ vs, G i.2.2 = some (.lst vs) ∧ DgAll G vs s.2
  tk := fun _ => .ref i.1
  cls := cls
  keep := fun ⟨n, a, b, vs, c, d⟩ g k => ⟨n, k _ _ (.inl rfl) a, k _ _ (.inr rfl) b, vs, g _ _ c, d.mono g⟩
structure WaC (K : PySem.W.Frag) (mg : Str → Option Value) (C : Addr) : Prop where
  cl : Cls K C
  nT : NoAttr K C "threshold"
  nL : NoAttr K C "line"
  mgC : mg "Watch" = some (.ref C)
theorem Sit.upd {W : Wd} {G H : Hp} {s s' : W.d} {p : Addr} {o : HO} (S : Sit W G H s) (f : W.fp p) (r : W.rep s' G (upd H p o)) : Sit W G (upd H p o) s' ∧ Gr W.fp G H G (upd H p o) := by
  refine ⟨⟨fun a u e => ?_, S.fpG, fun a q z => ?_, r⟩, ⟨fun _ _ e => e, fun a u n e => ?_, fun a z => ?_, fun _ _ e => .inl e⟩⟩
  · rw [upd_ne (ne_of_none e (S.fpG p f))]; exact S.sub a u e
  · by_cases h : a = p
    · subst h; rw [upd_same] at z; cases z
    · rw [upd_ne h] at z; exact S.fpH a q z
  · rw [upd_ne fun h => n (by rw [h]; exact f)]; exact e
  · by_cases h : a = p
    · subst h; rw [upd_same] at z; cases z
    · rw [upd_ne h] at z; exact z
theorem IsInsM.watch {cls : Nat → Addr} {C : Addr} {i : Addr × Addr × Addr} {m : Str} (h1 : ¬ m = "line") (h2 : ¬ m = "threshold") : IsInsM (Ww cls C i) C m := fun {s G H} r => ⟨i.1, i.2.1, _, rfl, r.2.1, wf_no _ _ h1 h2⟩
/-! ### what the methods do -/
def m_push : List PD → Wt → R (PD × Wt) := fun ds s => match ds with
  | [.dict _, d] => (match m_is_thing [d] with
    | .ok (.bool true) => (match d with
      | .tuple (.int a :: _) => if s.2.length < 100000 then .ok (.bool (decide (s.1 ≤ a)), (s.1, s.2 ++ [d])) else .bad
      | _ => .bad)
    | .ok (.bool false) => .exc 0
    | _ => .bad)
  | _ => .bad
def m_undo : List PD → Wt → R (PD × Wt) := fun ds s => match ds with
  | [.dict _] => if SeqAt.shaped (.list s.2) = true then (match s.2[s.2.length - 1]? with
    | some d => .ok (d, (s.1, s.2.dropLast))
    | none => .exc 4) else .bad
  | _ => .bad
def m_things : List PD → Wt → R (PD × Wt) := fun ds s => match ds with
  | [.dict _] => .ok (.list s.2, s)
  | _ => .bad
def m_wlen : List PD → Wt → R (PD × Wt) := fun ds s => match ds with
  | [.dict _] => if s.2.length < 1000000 then .ok (.int s.2.length, s) else .bad
  | _ => .bad
def spInitW (cls : Nat → Addr) (C : Addr) : Sp := fun vs H Q E => ∃ (x dx : Addr) (v : V) (G : Hp) (d : PD), vs = [.ref x, v] ∧ Sub G H ∧ H x = some (.ins C dx []) ∧ H dx = some (.own x) ∧ Dg G v d ∧ (match m_check_threshold [d] with
  | .ok _ => ∃ t, d = .int t ∧ ∀ (l : Addr) (H' : Hp), H l = none → (∀ a o, a ≠ x → H a = some o → H' a = some o) → (∀ a, H' a = none → H a = none) → H' x = some (.ins C dx (wf l t)) → H' l = some (.lst []) → Q .non H'
  | .exc c => ∀ H', (∀ a o, H a = some o → H' a = some o) → (∀ a, H' a = none → H a = none) → E (.ref (cls c)) none H'
  | .bad => False)
/-! ### len(o), o of a class with its own __len__ -/
section
variable {X : Cx} {CX : CXT} {k : Nat} {f C : Addr} {fd : FuncData} {sp : Sp} {E : XK}
theorem call_lenOwn (F : FnOk X.prog X.w X.K X.mg X.base CX k f fd ["self"] sp) (hr : Room (k + 1) X.A) (hl : PySem.W.findIn X.K (.ref C) "__len__" = some (some (.ref f))) (hf : PySem.W.isFn X.K (.ref f) = true) (hb : Binds X.K fd ["self"] []) (hx : Passes CX X E) :
    CallR X (.builtin "len") (fun xs H Q => ∃ a dx fs, xs = [.ref a] ∧ H a = some (.ins C dx fs) ∧ sp [.ref a] H (fun v H2 => ∃ n : Int, v = .int n ∧ 0 ≤ n ∧ n < 2 ^ 63 ∧ Q (.int n) H2) E) := by
  intro pins s σ H xs us Q I r h
  obtain ⟨a, dx, fs, rfl, ha, hsp⟩ := h
  rw [Vals.ref1 r]
  obtain ⟨mA, J, _⟩ := ins_get I.hok ha
  obtain ⟨od, J, _⟩ := J.look
  refine Calls.call_function_entry kind_len plain_len entry_len (args_len1 _) ?_
  unfold Builtin.«len»
  refine wpAny_bind (m := oneArg "len" _) (wpAny_pure ?_)
  have e0 : Env0 X.prog X.w X.K X.mg X.base X.A.in1 X.stack s H := by
    have e := I.env0
    exact ⟨e.frames, e.mod, e.bs, e.bsz, e.funs, e.frf, e.hok, e.bare⟩
  have r2 : Vals [V.ref a] [Value.ref a] := .cons rfl .nil
  refine wpAny_bind (m := callSpecial? (.ref a) (Str.ofString "__len__")) (PySem.W.special_fn (name := "__len__") (args := []) I.kIn J hl (beq_iff_eq.mp hf) ?_)
  refine wpAny_call (codeAny_mono (F.run X.A.in1 X.stack s H ⟨[.ref a], []⟩ [.ref a] [.ref a] _ E hr.in1 e0 (by
    have := hb s [.ref a] I.kIn rfl
    simpa using this) r2 hsp) fun r s' hq => ?_)
  cases r with
  | error e => exact hx pins σ H s e s' I hq
  | ok fl =>
    cases fl with
    | ret u =>
      obtain ⟨v, H', I', rv, n, rfl, h0, h1, q⟩ := I.after hq
      obtain ⟨t, rfl⟩ := rv
      show wpAny _ _ _ _ _ s'
      refine wpAny_bind (wpAny_holding (wpAny_pure ?_))
      refine wpAny_bind (wpAny_letGo ?_)
      show wpAny _ _ (if n < 0 then _ else _) _ _ _
      rw [if_neg (by omega)]
      show wpAny _ _ (if n ≥ 2 ^ 63 then _ else _) _ _ _
      rw [if_neg (by omega)]
      exact wpAny_bind (wpAny_mkInt (wpAny_pure ⟨_, rfl, ⟨.int n, H', I'.tok _, ⟨_, rfl⟩, q⟩⟩))
    | next => exact False.elim hq
    | brk => exact False.elim hq
    | cont => exact False.elim hq
end
def cLenW {t1 : Type} (o : Env → t1 × Wt → R (PD × (t1 × Wt))) : Env → t1 × Wt → R (PD × (t1 × Wt)) := fun ρ s =>
  bnd (o ρ s) fun x s1 => if isT 1 x = true ∧ s1.2.2.length < 1000000 then .ok (.int s1.2.2.length, s1) else .bad
section
variable {X : Cx} {O O' : List Nat} {W1 : Wd} {cls : Nat → Addr} {G0 H0 : Hp} {E : XK}
theorem de_lenW {i : Addr × Addr × Addr} {k : Nat} {f C : Addr} {fd : FuncData} {o : Expr} {fo : Mx ⟨W1.and (Ww cls C i), G0, H0, E⟩ PD} {p pos : Pos}
    (hF : FnOk X.prog X.w X.K X.mg X.base (L2.CX X.prog X.w) k f fd ["self"] (spW cls (Ww cls C) 1 fun _ => m_wlen)) (hm : Meth X.K C "__len__" f) (hb : Binds X.K fd ["self"] []) (hr : Room (k + 1) X.A) (hmg : X.mg "len" = none) (ho : DE X ⟨W1.and (Ww cls C i), G0, H0, E⟩ O o fo) (hg : Gl X "len" := by rfl)
    (he : starEach [o] X.env = (false, eval o X.env) :: starEach [] X.env := by rfl) (hpl : (backTo pos (starEach [] X.env)).any (·.1) = false := by rfl) :
    DE X ⟨W1.and (Ww cls C i), G0, H0, E⟩ O (.Call (.Name "len" p) [o] [] pos) (cLenW (t1 := W1.d) fo) := by
  refine PE.imp (pe_callB (call_lenOwn hF hr hm.at_ hm.fn hb passL) hg hmg PySem.boot_len (pa_cons ho pa_nil he) (by decide) (by decide) he hpl) fun σ H Q h => ?_
  obtain ⟨G, ρ, s, a, p⟩ := h
  refine rdE.then a p fun v G1 H1 dx s1 a1 g1 rx p1 => ?_
  by_cases hd : isT 1 dx = true ∧ s1.2.2.length < 1000000
  · rw [if_pos hd] at p1
    have hv := rx.isT1 hd.1
    have r := a1.sit.rep.2.1
    refine ⟨i.1, i.2.1, _, by rw [hv]; rfl, r.2.1, i, G1, [tokD 1], s1.2, a1.sit.right, .cons (.inr ⟨1, rfl, rfl⟩) .nil, rfl, ?_⟩
    show PostW cls (Ww cls C i) G1 H1 (if s1.2.2.length < 1000000 then .ok (.int s1.2.2.length, s1.2) else .bad) _ _
    rw [if_pos hd.2]
    intro v' G' H' g S rv
    have hv' := (rv.dg (isD_tok rfl)).of_int
    have := hd.2
    exact ⟨_, hv', by omega, by omega, p1 _ G' H' (g.weak fun _ z => .inr z) (a1.sit.joinR g S) (.inl (.int _))⟩
  · rw [if_neg hd] at p1; exact p1.elim
end
end DL

/-! DLR: objects made, methods that read, a try around calls of an object -/
namespace DL
open PySem PySem.Spec PyProof.Rows L2
/-! ### a new object comes into the world -/
def noT (ρ : Env) : Bool := ρ.all fun o => match o with
  | some d => !isT 1 d
  | none => true
theorem noT_get {ρ : Env} {i : Nat} {d : PD} (h : noT ρ = true) (e : ρ[i]? = some (some d)) : isT 1 d = false := by
  have := List.all_eq_true.mp h (some d) (List.mem_of_getElem? e)
  simpa using this
theorem Rp.wide {W1 W2 : Wd} {G : Hp} {v : V} {d : PD} (r : Rp W1.tk G v d) (h : isT 1 d = false) : Rp (W1.and W2).tk G v d := by
  rcases r with r | ⟨k, e, q⟩
  · exact .inl r
  · subst e
    have hk : ¬ k = 1 := fun z => by subst z; cases h
    exact .inr ⟨k, rfl, by rw [q]; show _ = (if k = 1 then W2.tk 1 else W1.tk k); rw [if_neg hk]⟩
section
variable {X : Cx} {O O' : List Nat} {W W2 : Wd} {G0 H0 : Hp} {E E' : XK} {σ : St} {G1 H1 H2 : Hp} {ρ : Env} {s1 : W.d} {t : W2.d}
theorem At.enter (a : At ⟨W, G0, H0, E⟩ O σ H1 G1 ρ s1) (nf : ∀ x, W2.fp x → H1 x = none) (nf2 : ∀ x, W2.fp x → H2 x ≠ none) (hk : ∀ x o, H1 x = some o → H2 x = some o) (hd : ∀ x, H2 x = none → H1 x = none) (r : W2.rep t G1 H2) (nt : noT ρ = true) :
    At ⟨W.and W2, G0, H0, E'⟩ O σ H2 G1 ρ (s1, t) := by
  refine ⟨⟨fun x o e => hk x o (a.sit.sub x o e), fun x f => ?_, fun x f => ?_, W.keep a.sit.rep (fun _ _ e => e) fun x o _ e => hk x o e, r, fun x f g => a.sit.fpH x f (nf x g)⟩, ?_, a.rs.len, fun i d e n => ?_, fun i d e m => ?_, a.rs.apart⟩
  · rcases f with f | f
    · exact a.sit.fpG x f
    · cases e : G1 x with
      | none => rfl
      | some o => have := a.sit.sub x o e; rw [nf x f] at this; cases this
  · rcases f with f | f
    · exact fun z => a.sit.fpH x f (hd x z)
    · exact nf2 x f
  · exact (a.gr.weak fun _ z => .inl z).trans ⟨fun _ _ e => e, fun x o _ e => hk x o e, hd, fun _ _ e => .inl e⟩
  · obtain ⟨v, h1, h2⟩ := a.rs.plain i d e n
    exact ⟨v, h1, h2.wide (noT_get nt e)⟩
  · obtain ⟨p, vs, ds, h1, h2, h3, h4, h5, h6, h7⟩ := a.rs.own i d e m
    refine ⟨p, vs, ds, h1, h2, hk _ _ h3, h4, h5, h6, fun z => ?_⟩
    rcases z with z | z
    · exact h7 z
    · rw [nf p z] at h3; cases h3
/-- .. and is forgotten at the end -/
def outNew {t1 t2 : Type} (r : R (Fl × (t1 × t2))) : R (Fl × t1) := match r with
  | .ok (.rt d, s) => if isD d then .ok (.rt d, s.1) else .bad
  | _ => .bad
theorem PostS.leave {D : Ends} {r : R (Fl × (W.d × W2.d))} (nf : ∀ x, W2.fp x → H0 x = none) (p : PostS ⟨W, G0, H0, E⟩ O' D (outNew r)) : PostS ⟨W.and W2, G0, H0, E'⟩ O' D r := by
  cases r with
  | bad => exact p.elim
  | exc c => exact p.elim
  | ok y =>
    obtain ⟨fl, s⟩ := y
    cases fl with
    | nx ρ => exact p.elim
    | bk ρ => exact p.elim
    | ct ρ => exact p.elim
    | rt d =>
      unfold outNew at p
      dsimp only at p
      by_cases hd : isD d = true
      · rw [if_pos hd] at p
        intro v G' H' g S rv
        refine p v G' H' ⟨g.g, fun x o n e => g.h x o (fun z => ?_) e, g.dom, g.new⟩ S.left (.inl (rv.dg (isD_tok hd)))
        rcases z with z | z
        · exact n z
        · have e : H0 x = some o := e
          rw [nf x z] at e; cases e
      · rw [if_neg hd] at p; exact p.elim
end
/-! ### x = Watch(e) -/
def newW {t1 : Type} (d : PD) (s1 : t1) (k : t1 × Wt → R (Fl × (t1 × Wt))) : R (Fl × t1) := match d, m_check_threshold [d] with
  | .int t, .ok _ => outNew (k (s1, (t, [])))
  | _, _ => .bad
def sNewW {t1 : Type} (i : Nat) (fe : Env → t1 → R (PD × t1)) (fr : Env → t1 × Wt → R (Fl × (t1 × Wt))) : Env → t1 → R (Fl × t1) := fun ρ s =>
  bnd (fe ρ s) fun d s1 => if noT ρ = true then newW d s1 (fr (ρ.set i (some (tokD 1)))) else .bad
def sNewW2 {t1 : Type} (i j : Nat) (fe : Env → t1 → R (PD × t1)) (fr : Env → t1 × Wt → R (Fl × (t1 × Wt))) : Env → t1 → R (Fl × t1) := fun ρ s =>
  bnd (fe ρ s) fun d s1 => if noT ρ = true then newW d s1 (fr ((ρ.set i (some (tokD 1))).set j (some (.list [])))) else .bad
section
variable {X : Cx} {O O' : List Nat} {W : Wd} {G0 H0 : Hp}
theorem new_watch {C : Addr} {E : XK} {σ : St} {G1 H1 : Hp} {ρ : Env} {s1 : W.d} {v : V} {d : PD} {D : Ends} {Q : V → Hp → Prop} {k : W.d × Wt → R (Fl × (W.d × Wt))} (a1 : At ⟨W, G0, H0, E⟩ O σ H1 G1 ρ s1) (rv : Rp W.tk G1 v d) (nt : noT ρ = true) (p1 : PostS ⟨W, G0, H0, E⟩ O' D (newW d s1 k))
    (h : ∀ (i : Addr × Addr × Addr) (H2 : Hp) (t : Int), At ⟨W.and (Ww W.cls C i), G0, H0, E⟩ O σ H2 G1 ρ (s1, (t, [])) → PostS ⟨W.and (Ww W.cls C i), G0, H0, E⟩ O' D (k (s1, (t, []))) → Q (.ref i.1) H2) :
    ∀ x dx, H1 x = none → H1 dx = none → dx ≠ x → spInitW W.cls C [.ref x, v] (upd (upd H1 dx (.own x)) x (.ins C dx [])) (fun v H2 => v = .non ∧ Q (.ref x) H2) E0 := by
  intro x dx nx ndx ne
  unfold newW at p1
  split at p1
  · rename_i t q hq
    have rv' := rv.dg (isD_tok rfl)
    have hk0 : ∀ y o, H1 y = some o → (upd (upd H1 dx (.own x)) x (.ins C dx [])) y = some o := fun y o e => by
      rw [upd_ne (ne_of_none e nx), upd_ne (ne_of_none e ndx)]; exact e
    refine ⟨x, dx, v, G1, .int t, rfl, fun y o e => hk0 y o (a1.sit.sub y o e), upd_same, ?_, rv', ?_⟩
    · rw [upd_ne ne, upd_same]
    · rw [hq]
      refine ⟨t, rfl, fun l H' nl hk hd hx hl => ⟨rfl, ?_⟩⟩
      have lx : l ≠ x := fun z => by rw [z, upd_same] at nl; cases nl
      have ldx : l ≠ dx := fun z => by rw [z, upd_ne ne, upd_same] at nl; cases nl
      have nl1 : H1 l = none := by rw [upd_ne lx, upd_ne ldx] at nl; exact nl
      have nf : ∀ y, (Ww W.cls C (x, dx, l)).fp y → H1 y = none := fun y z => by
        rcases z with z | z | z
        · rw [z]; exact nx
        · rw [z]; exact ndx
        · rw [z]; exact nl1
      have hdx : H' dx = some (.own x) := hk dx _ ne (by rw [upd_ne ne, upd_same])
      refine h (x, dx, l) H' t (At.enter a1 nf (fun y z => ?_) (fun y o e => hk y o (ne_of_none e nx) (hk0 y o e)) (fun y z => ?_) ⟨⟨Ne.symm ne, Ne.symm lx, Ne.symm ldx⟩, hx, hdx, [], hl, .nil⟩ nt) (PostS.leave (fun y z => a1.gr.dom y (nf y z)) p1)
      · rcases z with z | z | z
        · rw [z]; show H' x ≠ none; rw [hx]; exact fun q => by cases q
        · rw [z]; show H' dx ≠ none; rw [hdx]; exact fun q => by cases q
        · rw [z]; show H' l ≠ none; rw [hl]; exact fun q => by cases q
      · have h1 := hd y z
        have yx : y ≠ x := fun q => by rw [q, upd_same] at h1; cases h1
        have ydx : y ≠ dx := fun q => by rw [q, upd_ne ne, upd_same] at h1; cases h1
        rw [upd_ne yx, upd_ne ydx] at h1; exact h1
  · exact p1.elim
theorem dss_newW (i : Nat) {C f : Addr} {fd : FuncData} {k : Nat} {x : Str} {e : Expr} {fe : Mx ⟨W, G0, H0, E0⟩ PD} {rest : List Stmt} {fr : Env → W.d × Wt → R (Fl × (W.d × Wt))} {p cpos pos pos' : Pos} (hN : X.N.Nodup) (T : WaC X.K X.mg C) (M : Mk X.K C f)
    (F : FnOk X.prog X.w X.K X.mg X.base (L2.CX X.prog X.w) k f fd ["self", "threshold"] (spInitW W.cls C)) (hb : Binds X.K fd ["self", "threshold"] []) (hr : Room (k + 1) X.A) (he : DE X ⟨W, G0, H0, E0⟩ O e fe) (hrest : ∀ j, DSs X ⟨W.and (Ww W.cls C j), G0, H0, E0⟩ O O' rest fr)
    (hi : X.N[i]? = some x := by rfl) (hx : Loc X.env.scope x := by first | exact Or.inl rfl | exact Or.inr rfl) (hO : i ∉ O := by decide) (hg : Gl X "Watch" := by rfl)
    (hs : swapsWith (.Call (.Name "Watch" p) [e] [] cpos) (some (.Name x pos')) pos.line X.env = pure false := by rfl) (hf : X.fn x = true ∨ X.env.scope.names.lookup x = some .local := by first | exact .inl rfl | exact .inr rfl)
    (hst : starEach [e] X.env = (false, eval e X.env) :: starEach [] X.env := by rfl) (hpl : (backTo cpos (starEach [] X.env)).any (·.1) = false := by rfl) :
    DSs X ⟨W, G0, H0, E0⟩ O O' (.Assign [.Name x pos'] (.Call (.Name "Watch" p) [e] [] cpos) pos :: rest) (sNewW i fe fr) := by
  have hb' : PSs X rest (fun D σ H' => ∃ j, rdS ⟨W.and (Ww W.cls C j), G0, H0, E0⟩ O O' fr D σ H') := ⟨fun pins s' σ H' D I h => by
    obtain ⟨j, h⟩ := h
    exact (hrest j).run pins s' σ H' D I h⟩
  refine PSs.imp (pss_cons (ps_set hN hi hx (pe_make M F hr hg T.mgC hb .nil passL (pa_cons he pa_nil hst) (by decide) hst hpl) hs hf) hb') fun D σ H h => ?_
  obtain ⟨G, ρ, s, a, q⟩ := h
  refine rdE.thenS a q fun v G1 H1 d s1 a1 g1 rv p1 => ?_
  by_cases nt : noT ρ = true
  · rw [if_pos nt] at p1
    intro y dy ny ndy ne
    refine new_watch (C := C) (O' := O') (D := D) (Q := fun y H2 => ∃ j, rdS ⟨W.and (Ww W.cls C j), G0, H0, E0⟩ O O' fr D (σ.set i (some y)) H2) (k := fr (ρ.set i (some (tokD 1)))) a1 rv nt p1 (fun j H2 t a2 p2 => ?_) y dy ny ndy ne
    refine ⟨j, G1, ρ.set i (some (tokD 1)), (s1, (t, [])), ⟨a2.sit, a2.gr, a2.rs.set (.inr ⟨1, rfl, rfl⟩) hO⟩, p2⟩
  · rw [if_neg nt] at p1; exact p1.elim
/-- x, y = (Watch(e), []) -/
theorem dss_newW2 (i j : Nat) {C f : Addr} {fd : FuncData} {k : Nat} {x y : Str} {e : Expr} {fe : Mx ⟨W, G0, H0, E0⟩ PD} {rest : List Stmt} {fr : Env → W.d × Wt → R (Fl × (W.d × Wt))} {p cpos px py pt pt2 pl pos : Pos} {kt k2 : Nat} (hN : X.N.Nodup) (T : WaC X.K X.mg C) (M : Mk X.K C f)
    (F : FnOk X.prog X.w X.K X.mg X.base (L2.CX X.prog X.w) k f fd ["self", "threshold"] (spInitW W.cls C)) (hb : Binds X.K fd ["self", "threshold"] []) (hr : Room (k + 1) X.A) (he : DE X ⟨W, G0, H0, E0⟩ O e fe) (hrest : ∀ j, DSs X ⟨W.and (Ww W.cls C j), G0, H0, E0⟩ O O' rest fr)
    (hc : X.calm = true := by rfl) (hi : X.N[i]? = some x := by rfl) (hj : X.N[j]? = some y := by rfl) (hij : i ≠ j := by decide) (hx : X.env.scope.names.lookup x = some .local := by rfl) (hy : X.env.scope.names.lookup y = some .local := by rfl) (hOi : i ∉ O := by decide) (hOj : j ∉ O := by decide) (hg : Gl X "Watch" := by rfl)
    (hw : swappedStores [.Tuple [.Name x px, .Name y py] kt pt] (.Tuple [.Call (.Name "Watch" p) [e] [] cpos, .List [] pl] k2 pt2) X.env = pure (some [x, y]) := by rfl)
    (hs : swapsWithSole [.Tuple [.Name x px, .Name y py] kt pt] (.Tuple [.Call (.Name "Watch" p) [e] [] cpos, .List [] pl] k2 pt2) pos.line X.env = pure false := by rfl)
    (hst : starEach [e] X.env = (false, eval e X.env) :: starEach [] X.env := by rfl) (hpl : (backTo cpos (starEach [] X.env)).any (·.1) = false := by rfl) 
    (hs2 : starEach [.Call (.Name "Watch" p) [e] [] cpos, .List [] pl] X.env = (false, eval (.Call (.Name "Watch" p) [e] [] cpos) X.env) :: starEach [.List [] pl] X.env := by rfl) (hs3 : starEach [.List [] pl] X.env = (false, eval (.List [] pl) X.env) :: starEach [] X.env := by rfl) :
    DSs X ⟨W, G0, H0, E0⟩ O O' (.Assign [.Tuple [.Name x px, .Name y py] kt pt] (.Tuple [.Call (.Name "Watch" p) [e] [] cpos, .List [] pl] k2 pt2) pos :: rest) (sNewW2 i j fe fr) := by
  have hb' : PSs X rest (fun D σ H' => ∃ j, rdS ⟨W.and (Ww W.cls C j), G0, H0, E0⟩ O O' fr D σ H') := ⟨fun pins s' σ H' D I h => by
    obtain ⟨j, h⟩ := h
    exact (hrest j).run pins s' σ H' D I h⟩
  refine PSs.imp (pss_cons (ps_par hc hN hi hj hij hx hy (pa_cons (pe_make M F hr hg T.mgC hb .nil passL (pa_cons he pa_nil hst) (by decide) hst hpl) (pa_cons (pe_lst pa_nil) pa_nil hs3) hs2) hw hs) hb') fun D σ H h => ?_
  obtain ⟨G, ρ, s, a, q⟩ := h
  refine rdE.thenS a q fun v G1 H1 d s1 a1 g1 rv p1 => ?_
  by_cases nt : noT ρ = true
  · rw [if_pos nt] at p1
    intro y dy ny ndy ne
    refine new_watch (C := C) (O' := O') (D := D) (Q := fun y H2 => tCons (tLst tNil) tNil σ H2 fun xs H3 => ∃ v w, y :: xs = [v, w] ∧ ∃ jj, rdS ⟨W.and (Ww W.cls C jj), G0, H0, E0⟩ O O' fr D ((σ.set i (some v)).set j (some w)) H3) (k := fr ((ρ.set i (some (tokD 1))).set j (some (.list [])))) a1 rv nt p1 (fun jj H2 t a2 p2 => ?_) y dy ny ndy ne
    refine ⟨Nat.zero_le _, fun l hl => ⟨_, _, rfl, ?_⟩⟩
    have g3 := Gr.alloc (fp := (W.and (Ww W.cls C jj)).fp) (o := .lst []) a2.sit.sub hl
    have a3 := a2.step g3 (a2.sit.alloc hl)
    refine ⟨jj, upd G1 l (.lst []), (ρ.set i (some (tokD 1))).set j (some (.list [])), (s1, (t, [])), ⟨a3.sit, a3.gr, (a3.rs.set (.inr ⟨1, rfl, rfl⟩) hOi).set (.inl (.lst upd_same .nil)) hOj⟩, p2⟩
  · rw [if_neg nt] at p1; exact p1.elim
end
end DL

/-! DLS: methods that only read the list; a def that is handed the object; a try around calls of the object -/
namespace DL
open PySem PySem.Spec PyProof.Rows L2
/-- a watch whose list ds is only read: the state is the threshold -/
def Wrd (cls : Nat → Addr) (C : Addr) (i : Addr × Addr × Addr) (ds : List PD) : Wd where
  d := Int
  fp := fun a => a = i.1 ∨ a = i.2.1
  rep := fun t G H => (i.1 ≠ i.2.1 ∧ i.1 ≠ i.2.2 ∧ i.2.1 ≠ i.2.2) ∧ H i.1 = some (.ins C i.2.1 (wf i.2.2 t)) ∧ H i.2.1 = some (.own i.1) ∧ ∃ vs, G i.2.2 = some (.lst vs) ∧ DgAll G vs ds
  tk := fun _ => .ref i.1
  cls := cls
  keep := fun ⟨n, a, b, vs, c, d⟩ g k => ⟨n, k _ _ (.inl rfl) a, k _ _ (.inr rfl) b, vs, g _ _ c, d.mono g⟩
theorem wf_len (l : Addr) (t : Int) : (wf l t).length < 1000 := by rw [wf_eq]; show 2 < 1000; decide
def cThr {t1 : Type} (o : Env → t1 × Int → R (PD × (t1 × Int))) : Env → t1 × Int → R (PD × (t1 × Int)) := fun ρ s => bnd (o ρ s) fun x s1 => if isT 1 x = true then .ok (.int s1.2, s1) else .bad
def cLnW {t1 : Type} (ds : List PD) (o : Env → t1 × Int → R (PD × (t1 × Int))) : Env → t1 × Int → R (PD × (t1 × Int)) := fun ρ s => bnd (o ρ s) fun x s1 => if isT 1 x = true then .ok (.list ds, s1) else .bad
def sThr {t1 : Type} (fe o : Env → t1 × Int → R (PD × (t1 × Int))) : Env → t1 × Int → R (Fl × (t1 × Int)) := fun ρ s => bnd (fe ρ s) fun d s1 => bnd (o ρ s1) fun x s2 => if isT 1 x = true then (match d with
  | .int t => .ok (.nx ρ, (s2.1, t))
  | _ => .bad) else .bad
section
variable {X : Cx} {O O' : List Nat} {W1 : Wd} {cls : Nat → Addr} {C : Addr} {i : Addr × Addr × Addr} {ds : List PD} {G0 H0 : Hp} {E : XK}
theorem de_thr {o : Expr} {fo : Mx ⟨W1.and (Wrd cls C i ds), G0, H0, E⟩ PD} {pos : Pos} (T : WaC X.K X.mg C) (ho : DE X ⟨W1.and (Wrd cls C i ds), G0, H0, E⟩ O o fo) (hb : attributeBase o "threshold" X.env (eval o X.env) = eval o X.env := by rfl) :
    DE X ⟨W1.and (Wrd cls C i ds), G0, H0, E⟩ O (.Attribute o "threshold" pos) (cThr (t1 := W1.d) fo) :=
  PE.imp (pe_fld ho hb) fun σ H Q h => by
    obtain ⟨G, ρ, s, a, p⟩ := h
    refine rdE.then a p fun v G1 H1 dx s1 a1 g1 rx p1 => ?_
    by_cases hd : isT 1 dx = true
    · rw [if_pos hd] at p1
      have r := a1.sit.rep.2.1
      exact ⟨i.1, C, i.2.1, _, .int s1.2, rx.isT1 hd, r.2.1, T.cl, T.nT, wf_thr _ _, p1.done a1.sit (.inl (.int _))⟩
    · rw [if_neg hd] at p1; exact p1.elim
theorem de_line {o : Expr} {fo : Mx ⟨W1.and (Wrd cls C i ds), G0, H0, E⟩ PD} {pos : Pos} (T : WaC X.K X.mg C) (ho : DE X ⟨W1.and (Wrd cls C i ds), G0, H0, E⟩ O o fo) (hb : attributeBase o "line" X.env (eval o X.env) = eval o X.env := by rfl) :
    DE X ⟨W1.and (Wrd cls C i ds), G0, H0, E⟩ O (.Attribute o "line" pos) (cLnW (t1 := W1.d) ds fo) :=
  PE.imp (pe_fld ho hb) fun σ H Q h => by
    obtain ⟨G, ρ, s, a, p⟩ := h
    refine rdE.then a p fun v G1 H1 dx s1 a1 g1 rx p1 => ?_
    by_cases hd : isT 1 dx = true
    · rw [if_pos hd] at p1
      obtain ⟨n, r1, r2, vs, r3, r4⟩ := a1.sit.rep.2.1
      exact ⟨i.1, C, i.2.1, _, .ref i.2.2, rx.isT1 hd, r1, T.cl, T.nL, wf_line _ _, p1.done a1.sit (.inl (.lst r3 r4))⟩
    · rw [if_neg hd] at p1; exact p1.elim
theorem ds_thr {o e : Expr} {fo fe : Mx ⟨W1.and (Wrd cls C i ds), G0, H0, E⟩ PD} {pos pos' : Pos} (T : WaC X.K X.mg C) (ho : DE X ⟨W1.and (Wrd cls C i ds), G0, H0, E⟩ O o fo) (he : DE X ⟨W1.and (Wrd cls C i ds), G0, H0, E⟩ O e fe) (hs : swapsWith e (some (.Attribute o "threshold" pos')) pos.line X.env = pure false := by rfl) :
    DS X ⟨W1.and (Wrd cls C i ds), G0, H0, E⟩ O O (.Assign [.Attribute o "threshold" pos'] e pos) (sThr (t1 := W1.d) fe fo) :=
  PS.imp (ps_fld ho he hs) fun D σ H h => by
    obtain ⟨G, ρ, s, a, p⟩ := h
    refine rdE.thenS a p fun w G1 H1 d s1 a1 g1 rw' p1 => ?_
    refine rdE.thenS a1 p1 fun v G2 H2 dx s2 a2 g2 rx p2 => ?_
    by_cases hd : isT 1 dx = true
    · rw [if_pos hd] at p2
      cases d with
      | int t =>
        have p2 : PostS ⟨W1.and (Wrd cls C i ds), G0, H0, E⟩ O D (.ok (.nx ρ, (s2.1, t))) := p2
        have hw := (rw'.dg (isD_tok rfl)).of_int
        obtain ⟨rp1, ⟨n, r1, r2, vs, r3, r4⟩, dj⟩ := a2.sit.rep
        refine ⟨i.1, C, i.2.1, _, rx.isT1 hd, r1, T.cl, T.nT, wf_len _ _, ?_⟩
        subst hw
        have nf1 : ∀ a, W1.fp a → a ≠ i.1 := fun a f z => dj a f (.inl z)
        have S := Sit.upd (W := W1.and (Wrd cls C i ds)) (s' := (s2.1, t)) (p := i.1) (o := .ins C i.2.1 (wf i.2.2 t)) a2.sit (.inr (.inl rfl)) ⟨W1.keep rp1 (fun _ _ e => e) fun a o f e => by rw [upd_ne (nf1 a f)]; exact e, ⟨n, upd_same, by rw [upd_ne (Ne.symm n.1)]; exact r2, vs, r3, r4⟩, dj⟩
        exact (congrArg (fun z => D.nx σ (upd H2 i.1 (.ins C i.2.1 z))) (wf_put i.2.2 s2.2 t)).mpr (p2 σ G2 _ (a2.step S.2 S.1))
      | _ => exact p2.elim
    · rw [if_neg hd] at p2; exact p2.elim
end
/-! ### x[e] += k, x owned -/
section
variable {X : Cx} {B : Bs} {O O' : List Nat}
theorem get_list : PGet X (fun o i H Q => ∃ p xs k z, o = V.ref p ∧ i = V.int k ∧ H p = some (.lst xs) ∧ 0 ≤ k ∧ xs[k.toNat]? = some z ∧ Q z H) := by
  intro pins s σ H o i ov iv Q I ro ri h
  obtain ⟨p, xs, k, z, rfl, rfl, hp, h0, hz, q⟩ := h
  cases ro
  obtain ⟨t, rfl⟩ := ri
  obtain ⟨its, r, pl, hl⟩ := I.list (SqL.of hp)
  obtain ⟨w, ew, rw'⟩ := r.get hz
  have hlen := r.length
  have hn := line63
  have hk : k.toNat < xs.length := (List.getElem?_eq_some_iff.mp hz).1
  exact wpAny_getItem_list pl.isList h0 (by omega) (by simpa using ew) ⟨z, H, I, rw', q⟩
def sAugIx {d : Type} (i : Nat) (fi : Env → d → R (PD × d)) (k : Int) : Env → d → R (Fl × d) := fun ρ s => match ρ[i]? with
  | some (some (.list ds)) => bnd (fi ρ s) fun x s1 => match x with
    | .int j => if 0 ≤ j then (match ds[j.toNat]? with
      | some (.int a) => .ok (.nx (ρ.set i (some (.list (ds.set j.toNat (.int (a + k)))))), s1)
      | _ => .bad) else .bad
    | _ => .bad
  | _ => .bad
theorem DgAll.set {G : Hp} : ∀ {vs : List V} {ds : List PD} {v : V} {d : PD} (j : Nat), DgAll G vs ds → Dg G v d → DgAll G (vs.set j v) (ds.set j d)
  | _, _, _, _, _, .nil, _ => .nil
  | _, _, _, _, 0, .cons _ b, r => .cons r b
  | _, _, _, _, j + 1, .cons a b, r => .cons a (DgAll.set j b r)
theorem ds_augIx (i : Nat) {x : Str} {e : Expr} {fe : Mx B PD} {k : Int} {j : Nat} {p cpos tpos pos : Pos} (he : DE X B O e fe) (hm : i ∈ O := by decide) (hN : X.N[i]? = some x := by rfl) (hv : Vis X.env.scope x := by first | exact Or.inl rfl | exact Or.inr (Or.inl rfl) | exact Or.inr (Or.inr rfl)) (hd : (x == ("__debug__" : Str)) = false := by decide)
    (hcd : (x == ("__classdict__" : Str)) = false := by decide) (ha : ∀ ov iv new, augStore e ov iv new = (do holding [new, ov, iv] (setItem ov iv new); release [new, ov, iv] []; pure .next) := by intros; rfl) : DS X B O O (.AugAssign (.Subscript (.Name x p) e tpos) .Add (.Constant (.int k) j cpos) pos) (sAugIx i fe k) := by
  refine PS.imp (ps_augS (pe_var hN hv hd hcd) he get_list pe_int ip_add set_list ha) fun D σ H h => ?_
  obtain ⟨G, ρ, s, a, q⟩ := h
  unfold sAugIx at q
  split at q
  · rename_i ds e1
    obtain ⟨l, vs, ds', h1, h2, h3, h4, h5, h6, h7, _⟩ := a.own hm e1
    cases h2
    refine ⟨.ref l, h1, ?_⟩
    refine rdE.thenS a q fun w G1 H1 d s1 a1 g1 rv p1 => ?_
    cases d with
    | int n =>
      dsimp only at p1
      split at p1
      · rename_i h0
        split at p1
        · rename_i b eb
          have h3' := g1.h l _ h7 h3
          have n5 : G1 l = none := by
            cases z : G1 l with
            | none => rfl
            | some o =>
              rcases g1.new l o z with y | y
              · rw [h5] at y; cases y
              · rw [h3] at y; cases y
          obtain ⟨v, ev, rv2⟩ := (h4.mono g1.g).get eb
          have hv := rv2.of_int
          subst hv
          have hlt : n.toNat < vs.length := (List.getElem?_eq_some_iff.mp ev).1
          have hix : ixN vs.length n = some n.toNat := by
            unfold ixN
            rw [if_pos h0, if_pos (by omega)]
          refine ⟨l, vs, n, .int b, rfl, (rv.dg (isD_tok rfl)).of_int, h3', h0, ev, b, k, rfl, rfl, l, vs, n, n.toNat, rfl, (rv.dg (isD_tok rfl)).of_int, h3', hix, ?_⟩
          have hdd := DgAll.set n.toNat (h4.mono g1.g) (Dg.int (G := G1) (b + k))
          have ne : ∀ j d', j ∈ O → j ≠ i → ρ[j]? = some (some d') → σ[j]? ≠ some (some (.ref l)) := fun j d' m n ej z => n (a.rs.apart j i l d' _ m hm ej e1 z h1)
          have hset : σ.set i (some (.ref l)) = σ := by
            apply List.ext_getElem?
            intro k
            by_cases hk : i = k
            · subst hk
              rw [List.getElem?_set_self (List.getElem?_eq_some_iff.mp h1).1, h1]
            · rw [List.getElem?_set_ne hk]
          have at2 : At B O (σ.set i (some (.ref l))) (upd H1 l (.lst (vs.set n.toNat (.int (b + k))))) G1 (ρ.set i (some (.list (ds.set n.toNat (.int (b + k)))))) s1 := by
            refine ⟨⟨fun y o hy => ?_, a1.sit.fpG, fun y f z => ?_, B.W.keep a1.sit.rep (fun _ _ e => e) fun y o f hy => ?_⟩, ⟨a1.gr.g, fun y o n hy => ?_, fun y hy => ?_, a1.gr.new⟩, ?_⟩
            · rw [upd_ne (ne_of_none hy n5)]; exact a1.sit.sub y o hy
            · have q : y ≠ l := fun q => h7 (by rw [← q]; exact f)
              rw [upd_ne q] at z; exact a1.sit.fpH y f z
            · have q : y ≠ l := fun q => h7 (by rw [← q]; exact f)
              rw [upd_ne q]; exact hy
            · rw [upd_ne (ne_of_none hy h6)]; exact a1.gr.h y o n hy
            · by_cases z : y = l
              · subst z; exact h6
              · rw [upd_ne z] at hy; exact a1.gr.dom y hy
            · refine RS.setO' a1.rs hm upd_same hdd n5 h6 h7 (fun j d' m n ej => ne j d' m n ej) fun j d' m n ej p' hp' o hp => ?_
              have z : p' ≠ l := fun z => ne j d' m n ej (by rw [← z]; exact hp')
              rw [upd_ne z]; exact hp
          rw [hset] at at2
          exact p1 σ G1 _ at2
        · exact p1.elim
      · exact p1.elim
    | _ => exact p1.elim
  · exact q.elim
end
/-! ### a method whose body only reads the list -/
mutual
def noL : PD → Bool
  | .list _ => false
  | .dict _ => false
  | .tuple xs => noLs xs
  | _ => true
def noLs : List PD → Bool
  | [] => true
  | x :: r => noL x && noLs r
end
def less (G : Hp) (l : Addr) : Hp := fun a => if a = l then none else G a
theorem less_ne {G : Hp} {l a : Addr} (h : a ≠ l) : less G l a = G a := if_neg h
mutual
theorem Dg.less {G : Hp} {l : Addr} {xs : List V} (hl : G l = some (.lst xs)) : ∀ {v : V} {d : PD}, Dg G v d → noL d = true → Dg (less G l) v d
  | _, _, .non, _ => .non
  | _, _, .bl b, _ => .bl b
  | _, _, .int i, _ => .int i
  | _, _, .str x, _ => .str x
  | _, _, .lst _ _, h => by cases h
  | _, _, .tup (a := a) e r, h => .tup (by rw [less_ne fun z => by rw [z, hl] at e; cases e]; exact e) (DgAll.less hl r (by unfold noL at h; exact h))
theorem DgAll.less {G : Hp} {l : Addr} {xs : List V} (hl : G l = some (.lst xs)) : ∀ {vs : List V} {ds : List PD}, DgAll G vs ds → noLs ds = true → DgAll (less G l) vs ds
  | _, _, .nil, _ => .nil
  | _, _, .cons a b, h => by
    unfold noLs at h
    rw [Bool.and_eq_true] at h
    exact .cons (Dg.less hl a h.1) (DgAll.less hl b h.2)
end
def mBodyRd (n : Nat) (fb : List PD → Env → Unit × Int → R (Fl × (Unit × Int))) : List PD → Wt → R (PD × Wt) := fun ds s => match fb s.2 (ds.map some ++ List.replicate n none) ((), s.1) with
  | .ok (.rt d, s') => if noL d then .ok (d, (s'.2, s.2)) else .bad
  | _ => .bad
/-- .. behind a check -/
def mBodyRd1 (n : Nat) (f0 : Env → Unit → R (Fl × Unit)) (fb : List PD → Env → Unit × Int → R (Fl × (Unit × Int))) : List PD → Wt → R (PD × Wt) := fun ds s => match f0 (ds.map some ++ List.replicate n none) () with
  | .exc c => .exc c
  | .ok (.nx ρ, _) => (match fb s.2 ρ ((), s.1) with
    | .ok (.rt d, s') => if noL d then .ok (d, (s'.2, s.2)) else .bad
    | _ => .bad)
  | _ => .bad
section
variable {P : Program} {w : World} {K : PySem.W.Frag} {mg : Str → Option Value} {base : Heap} {x qual : Str} {params : Arguments} {body : List Stmt} {scope : Scope} {f C : Addr} {fd : FuncData} {cls : Nat → Addr}
theorem rd_enter {i : Addr × Addr × Addr} {G H G' H' : Hp} {t : Int} {ds : List PD} {E : XK} {σ : St} {ρ : Env} (S : Sit (Ww cls C i) G H (t, ds)) (a : At ⟨Wp cls (fun _ => .ref i.1), G, H, E⟩ [] σ H' G' ρ ()) :
    ∃ vs, At ⟨(Wp cls (fun _ => .ref i.1)).and (Wrd cls C i ds), upd G' i.2.2 (.lst vs), H', E0⟩ [] σ H' (upd G' i.2.2 (.lst vs)) ρ ((), t) ∧
      ∀ G2 H2 t', Gr ((Wp cls (fun _ => .ref i.1)).and (Wrd cls C i ds)).fp (upd G' i.2.2 (.lst vs)) H' G2 H2 → Sit ((Wp cls (fun _ => .ref i.1)).and (Wrd cls C i ds)) G2 H2 ((), t') → Gr (Ww cls C i).fp G H (DL.less G2 i.2.2) H2 ∧ Sit (Ww cls C i) (DL.less G2 i.2.2) H2 (t', ds) ∧ G2 i.2.2 = some (.lst vs) := by
  obtain ⟨n, r1, r2, vs, r3, r4⟩ := S.rep
  have gr : Gr (fun _ => False) G H G' H' := a.gr
  have sb := a.sit.sub
  have gl : G i.2.2 = none := S.fpG _ (.inr (.inr rfl))
  have gl' : G' i.2.2 = none := gr.fpG (fq := (Ww cls C i).fp) S.fpG S.fpH _ (.inr (.inr rfl))
  have k1 := gr.h _ _ (fun z => z) r1
  have k2 := gr.h _ _ (fun z => z) r2
  have k3 := gr.h _ _ (fun z => z) r3
  have sg : Sub G' (upd G' i.2.2 (.lst vs)) := sub_upd gl'
  have gx : ∀ a, a ≠ i.2.2 → (Ww cls C i).fp a → (upd G' i.2.2 (.lst vs)) a = none := fun a h f => by rw [upd_ne h]; exact gr.fpG (fq := (Ww cls C i).fp) S.fpG S.fpH a f
  refine ⟨vs, ⟨⟨fun a o e => ?_, fun a f => ?_, fun a f => ?_, trivial, ⟨n, k1, k2, vs, upd_same, (r4.mono gr.g).mono sg⟩, fun _ z => z.elim⟩, .refl, a.rs.len, fun j d e n => ?_, fun j d e m => by simp at m, fun j k p d e m => by simp at m⟩, fun G2 H2 t' g S2 => ?_⟩
  · by_cases h : a = i.2.2
    · subst h; rw [upd_same] at e; cases e; exact k3
    · rw [upd_ne h] at e; exact sb a o e
  · rcases f with f | f | f
    · exact f.elim
    · rw [f]; exact gx _ n.2.1 (.inl rfl)
    · rw [f]; exact gx _ n.2.2 (.inr (.inl rfl))
  · rcases f with f | f | f
    · exact f.elim
    · rw [f, k1]; exact fun q => by cases q
    · rw [f, k2]; exact fun q => by cases q
  · obtain ⟨v, h1, h2⟩ := a.rs.plain j d e n
    refine ⟨v, h1, ?_⟩
    rcases h2 with h2 | ⟨q, e2, e3⟩
    · exact .inl (h2.mono sg)
    · refine .inr ⟨q, e2, ?_⟩
      rw [e3]
      show V.ref i.1 = (if q = 1 then V.ref i.1 else V.ref i.1)
      split <;> rfl
  · have e2 : G2 i.2.2 = some (.lst vs) := g.g _ _ upd_same
    obtain ⟨_, ⟨n2, q1, q2, vs2, q3, q4⟩, _⟩ := S2.rep
    have sub3 : Sub G (DL.less G2 i.2.2) := fun a o e => by
      have h : a ≠ i.2.2 := ne_of_none e gl
      rw [less_ne h]
      exact g.g a o (sg a o (gr.g a o e))
    have fpl : ∀ a, ((Wp cls (fun _ => .ref i.1)).and (Wrd cls C i ds)).fp a → (Ww cls C i).fp a := fun a f => by
      rcases f with f | f | f
      · exact f.elim
      · exact .inl f
      · exact .inr (.inl f)
    refine ⟨⟨sub3, fun a o nf e => g.h a o (fun z => nf (fpl a z)) (gr.h a o (fun z => z) e), fun a z => gr.dom a (g.dom a z), fun a o e => ?_⟩, ⟨fun a o e => ?_, fun a f => ?_, fun a f => ?_, n2, q1, q2, vs, S2.sub _ _ e2, r4.mono sub3⟩, e2⟩
    · by_cases h : a = i.2.2
      · unfold DL.less at e; rw [if_pos h] at e; cases e
      · rw [less_ne h] at e
        rcases g.new a o e with z | z
        · rw [upd_ne h] at z; exact gr.new a o z
        · exact .inr (gr.dom a z)
    · by_cases h : a = i.2.2
      · unfold DL.less at e; rw [if_pos h] at e; cases e
      · rw [less_ne h] at e; exact S2.sub a o e
    · by_cases h : a = i.2.2
      · unfold DL.less; rw [if_pos h]
      · rw [less_ne h]
        refine S2.fpG a ?_
        rcases f with f | f | f
        · exact .inr (.inl f)
        · exact .inr (.inr f)
        · exact absurd f h
    · rcases f with f | f | f
      · exact S2.fpH a (.inr (.inl f))
      · exact S2.fpH a (.inr (.inr f))
      · rw [f, S2.sub _ _ e2]; exact fun q => by cases q
theorem fn_rd {N ps : List Str} {k n : Nat} {fb : List PD → Env → Unit × Int → R (Fl × (Unit × Int))} (F : FunD K x qual params body scope [] [] f fd) (S : FnScope N ps scope) (hn : ps.length = n)
    (hbody : ∀ (cdv : Value) (A : Around) (outer : List PySem.Env) (s : Shared) (H : Hp) (E : XK) (tk : Nat → V) (i : Addr × Addr × Addr) (ds : List PD) (G1 H1 : Hp), Room k (A.deeper (envOfC qual scope s.heap.objs.size f cdv)) →
      DSs (cxOf (L2.CX P w) P w K mg base N qual scope f cdv A outer s H E) ⟨(Wp cls tk).and (Wrd cls C i ds), G1, H1, E0⟩ [] [] body (fb ds)) : FnOk P w K mg base (L2.CX P w) (k + 1) f fd ps (spW cls (Ww cls C) n fun _ => mBodyRd (N.length - n) fb) := by
  refine F.ok S (fun vs H Q E h => ?_) (fun cdv A outer s H vs Q E hr h => ?_)
  · obtain ⟨i, G, ds, s, _, r, hl, _⟩ := h
    rw [r.len, hl, hn]
  · obtain ⟨i, G, ds, ⟨t, es⟩, sit, r, hl, p⟩ := h
    have a0 : At ⟨Wp cls (fun _ => .ref i.1), G, H, E⟩ [] (L2.start N vs) H G (startD N ds) () := ⟨⟨sit.sub, fun _ z => z.elim, fun _ z => z.elim, trivial⟩, .refl, RpAll.begin_ (W := Wp cls (fun _ => .ref i.1)) N r⟩
    obtain ⟨us, a1, fin⟩ := rd_enter sit a0
    refine ⟨_, hbody cdv A outer s H E (fun _ => .ref i.1) i es _ _ hr, _, startD N ds, ((), t), a1, ?_⟩
    have p : PostW cls (Ww cls C i) G H (mBodyRd (N.length - n) fb ds (t, es)) Q E := p
    unfold mBodyRd at p
    have e0 : startD N ds = ds.map some ++ List.replicate (N.length - n) none := by unfold startD; rw [hl]
    rw [e0]
    dsimp only at p
    suffices key : ∀ r', fb es (ds.map some ++ List.replicate (N.length - n) none) ((), t) = r' → PostS ⟨(Wp cls (fun _ => .ref i.1)).and (Wrd cls C i es), upd G i.2.2 (.lst us), H, E0⟩ [] { nx := fun _ H' => Q .non H', rt := Q } r' from key _ rfl
    intro r' er
    rw [er] at p
    cases r' with
    | bad => exact p.elim
    | exc c => exact p.elim
    | ok y =>
      obtain ⟨fl, u, t'⟩ := y
      cases fl with
      | nx ρ => exact p.elim
      | bk ρ => exact p.elim
      | ct ρ => exact p.elim
      | rt d =>
        dsimp only at p
        by_cases hd : noL d = true
        · rw [if_pos hd] at p
          intro v G' H' g st rv
          obtain ⟨f1, f2, f3⟩ := fin G' H' t' g st
          have dd : Dg G' v d := by
            rcases rv with rv | ⟨q, e1, e2⟩
            · exact rv
            · exact absurd hd (by rw [e1]; exact fun z => Bool.noConfusion z)
          exact p v _ H' f1 f2 (.inl (dd.less f3 hd))
        · rw [if_neg hd] at p; exact p.elim
theorem fn_rd1 {N ps : List Str} {k n : Nat} {st : Stmt} {rest : List Stmt} {f0 : Env → Unit → R (Fl × Unit)} {fb : List PD → Env → Unit × Int → R (Fl × (Unit × Int))} (F : FunD K x qual params body scope [] [] f fd) (S : FnScope N ps scope) (hn : ps.length = n) (hbd : body = st :: rest)
    (h0 : ∀ (cdv : Value) (A : Around) (outer : List PySem.Env) (s : Shared) (H : Hp) (E : XK) (tk : Nat → V) (G : Hp), Room k (A.deeper (envOfC qual scope s.heap.objs.size f cdv)) →
      DS (cxOf (L2.CX P w) P w K mg base N qual scope f cdv A outer s H E) ⟨Wp cls tk, G, H, E⟩ [] [] st f0)
    (hbody : ∀ (cdv : Value) (A : Around) (outer : List PySem.Env) (s : Shared) (H : Hp) (E : XK) (tk : Nat → V) (i : Addr × Addr × Addr) (ds : List PD) (G1 H1 : Hp), Room k (A.deeper (envOfC qual scope s.heap.objs.size f cdv)) →
      DSs (cxOf (L2.CX P w) P w K mg base N qual scope f cdv A outer s H E) ⟨(Wp cls tk).and (Wrd cls C i ds), G1, H1, E0⟩ [] [] rest (fb ds)) : FnOk P w K mg base (L2.CX P w) (k + 1) f fd ps (spW cls (Ww cls C) n fun _ => mBodyRd1 (N.length - n) f0 fb) := by
  subst hbd
  refine F.ok S (fun vs H Q E h => ?_) (fun cdv A outer s H vs Q E hr h => ?_)
  · obtain ⟨i, G, ds, s, _, r, hl, _⟩ := h
    rw [r.len, hl, hn]
  · obtain ⟨i, G, ds, ⟨t, es⟩, sit, r, hl, p⟩ := h
    have a0 : At ⟨Wp cls (fun _ => .ref i.1), G, H, E⟩ [] (L2.start N vs) H G (startD N ds) () := ⟨⟨sit.sub, fun _ z => z.elim, fun _ z => z.elim, trivial⟩, .refl, RpAll.begin_ (W := Wp cls (fun _ => .ref i.1)) N r⟩
    have hb' : PSs (cxOf (L2.CX P w) P w K mg base N qual scope f cdv A outer s H E) rest (fun D σ H' => ∃ G1 H1, rdS ⟨(Wp cls (fun _ => .ref i.1)).and (Wrd cls C i es), G1, H1, E0⟩ [] [] (fb es) D σ H') := ⟨fun pins s' σ H' D I h => by
      obtain ⟨G1, H1, h⟩ := h
      exact (hbody cdv A outer s H E (fun _ => .ref i.1) i es G1 H1 hr).run pins s' σ H' D I h⟩
    refine ⟨_, pss_cons (h0 cdv A outer s H E (fun _ => .ref i.1) G hr) hb', G, startD N ds, (), a0, ?_⟩
    have p : PostW cls (Ww cls C i) G H (mBodyRd1 (N.length - n) f0 fb ds (t, es)) Q E := p
    unfold mBodyRd1 at p
    have e0 : startD N ds = ds.map some ++ List.replicate (N.length - n) none := by unfold startD; rw [hl]
    rw [e0]
    revert p
    generalize f0 (ds.map some ++ List.replicate (N.length - n) none) () = r0
    intro p
    cases r0 with
    | bad => exact p.elim
    | exc c => exact fun G' H' g => p G' H' g
    | ok y0 =>
      obtain ⟨fl0, u0⟩ := y0
      cases fl0 with
      | rt d => exact p.elim
      | bk d => exact p.elim
      | ct d => exact p.elim
      | nx ρ =>
        intro σ' G' H' a1'
        dsimp only at p
        obtain ⟨us, a1, fin⟩ := rd_enter sit a1'
        refine ⟨_, _, _, ρ, ((), t), a1, ?_⟩
        suffices key : ∀ r', fb es ρ ((), t) = r' → PostS ⟨(Wp cls (fun _ => .ref i.1)).and (Wrd cls C i es), upd G' i.2.2 (.lst us), H', E0⟩ [] { nx := fun _ H' => Q .non H', rt := Q } r' from key _ rfl
        intro r' er
        rw [er] at p
        cases r' with
        | bad => exact p.elim
        | exc c => exact p.elim
        | ok y =>
          obtain ⟨fl, u, t'⟩ := y
          cases fl with
          | nx ρ => exact p.elim
          | bk ρ => exact p.elim
          | ct ρ => exact p.elim
          | rt d =>
            dsimp only at p
            by_cases hd : noL d = true
            · rw [if_pos hd] at p
              intro v G' H' g st rv
              obtain ⟨f1, f2, f3⟩ := fin G' H' t' g st
              have dd : Dg G' v d := by
                rcases rv with rv | ⟨q, e1, e2⟩
                · exact rv
                · exact absurd hd (by rw [e1]; exact fun z => Bool.noConfusion z)
              exact p v _ H' f1 f2 (.inl (dd.less f3 hd))
            · rw [if_neg hd] at p; exact p.elim
end
/-! ### a def that is handed the object, by its body -/
def mBodyO {t : Type} (n : Nat) (fb : Env → Unit × t → R (Fl × (Unit × t))) : List PD → t → R (PD × t) := fun ds s => match fb (ds.map some ++ List.replicate n none) ((), s) with
  | .ok (.rt d, s') => if isD d then .ok (d, s'.2) else .bad
  | .ok (.nx _, s') => .ok (.none, s'.2)
  | _ => .bad
section
variable {P : Program} {w : World} {K : PySem.W.Frag} {mg : Str → Option Value} {base : Heap} {x qual : Str} {params : Arguments} {body : List Stmt} {scope : Scope} {f : Addr} {fd : FuncData} {cls : Nat → Addr} {ι : Type} {Fm : ι → Wd}
theorem RpAll.and {W2 : Wd} {tk : Nat → V} {G : Hp} (h1 : ∀ n, tk n = W2.tk 1) (h2 : ∀ n, W2.tk n = W2.tk 1) : ∀ {vs : List V} {ds : List PD}, RpAll W2.tk G vs ds → RpAll ((Wp cls tk).and W2).tk G vs ds
  | _, _, .nil => .nil
  | _, _, .cons a b => .cons (by
      rcases a with a | ⟨n, e, q⟩
      · exact .inl a
      · refine .inr ⟨n, e, ?_⟩
        rw [q, h2]
        show _ = (if n = 1 then W2.tk 1 else tk n)
        split
        · rfl
        · exact (h1 n).symm) (RpAll.and h1 h2 b)
theorem fn_O {N ps : List Str} {k n : Nat} {fb : ∀ i, Env → Unit × (Fm i).d → R (Fl × (Unit × (Fm i).d))} (F : FunD K x qual params body scope [] [] f fd) (S : FnScope N ps scope) (hn : ps.length = n) (ht : ∀ i n, (Fm i).tk n = (Fm i).tk 1)
    (hbody : ∀ (cdv : Value) (A : Around) (outer : List PySem.Env) (s : Shared) (H : Hp) (E : XK) (i : ι) (G : Hp), Sub G H → Room k (A.deeper (envOfC qual scope s.heap.objs.size f cdv)) →
      DSs (cxOf (L2.CX P w) P w K mg base N qual scope f cdv A outer s H E) ⟨(Wp cls (fun _ => (Fm i).tk 1)).and (Fm i), G, H, E0⟩ [] [] body (fb i)) : FnOk P w K mg base (L2.CX P w) (k + 1) f fd ps (spW cls Fm n fun i => mBodyO (t := (Fm i).d) (N.length - n) (fb i)) := by
  refine F.ok S (fun vs H Q E h => ?_) (fun cdv A outer s H vs Q E hr h => ?_)
  · obtain ⟨i, G, ds, s, _, r, hl, _⟩ := h
    rw [r.len, hl, hn]
  · obtain ⟨i, G, ds, st, sit, r, hl, p⟩ := h
    refine ⟨_, hbody cdv A outer s H E i G sit.sub hr, G, startD N ds, ((), st), ⟨sit.alone, .refl, RpAll.begin_ (W := (Wp cls (fun _ => (Fm i).tk 1)).and (Fm i)) N (r.and (fun _ => rfl) (ht i))⟩, ?_⟩
    have p : PostW cls (Fm i) G H (mBodyO (t := (Fm i).d) (N.length - n) (fb i) ds st) Q E := p
    unfold mBodyO at p
    have e0 : startD N ds = ds.map some ++ List.replicate (N.length - n) none := by unfold startD; rw [hl]
    rw [e0]
    suffices key : ∀ r', fb i (ds.map some ++ List.replicate (N.length - n) none) ((), st) = r' → PostS ⟨(Wp cls (fun _ => (Fm i).tk 1)).and (Fm i), G, H, E0⟩ [] { nx := fun _ H' => Q .non H', rt := Q } r' from key _ rfl
    intro r' er
    rw [er] at p
    cases r' with
    | bad => exact p.elim
    | exc c => exact p.elim
    | ok y =>
      obtain ⟨fl, u⟩ := y
      cases fl with
      | nx ρ => exact fun σ' G' H' a => p .non G' H' (Gr.alone (cls := cls) (tk := fun _ => .non) a.gr) a.sit.right (.inl .non)
      | bk ρ => exact p.elim
      | ct ρ => exact p.elim
      | rt d =>
        dsimp only at p
        by_cases hd : isD d = true
        · rw [if_pos hd] at p
          exact fun v G' H' g st' rv => p v G' H' (Gr.alone (cls := cls) (tk := fun _ => .non) g) st'.right (.inl (rv.dg (isD_tok hd)))
        · rw [if_neg hd] at p; exact p.elim
end
end DL

/-! DLT: errors that leave the state known -/
namespace DL
open PySem PySem.Spec PyProof.Rows L2
inductive RX (a t : Type) where
  | ok (x : a) | exc (c : Nat) (s : t) | bad
def PostSX (B : Bs) (O' : List Nat) (D : Ends) (E' : XK) (r : RX (Fl × B.W.d) B.W.d) : Prop :=
  match r with
  | .ok y => PostS B O' D (.ok y)
  | .exc c s' => ∀ G' H', Gr B.W.fp B.G0 B.H0 G' H' → Sit B.W G' H' s' → E' (.ref (B.W.cls c)) none H'
  | .bad => False
def rdSX (B : Bs) (O O' : List Nat) (E' : XK) (f : Env → B.W.d → RX (Fl × B.W.d) B.W.d) : TS := fun D σ H => ∃ G ρ s, At B O σ H G ρ s ∧ PostSX B O' D E' (f ρ s)
def xIf {d : Type} (t : Env → d → R (Bool × d)) (f g : Env → d → RX (Fl × d) d) : Env → d → RX (Fl × d) d := fun ρ s => match t ρ s with
  | .ok (b, s1) => if b = true then f ρ s1 else g ρ s1
  | _ => .bad
section
variable {X : Cx} {O O' : List Nat} {W : Wd} {G0 H0 : Hp} {E' : XK}
theorem psx_if {c : Expr} {a b : List Stmt} {fc : Mx ⟨W, G0, H0, E0⟩ Bool} {f g : Env → W.d → RX (Fl × W.d) W.d} {pos : Pos} (hc : DT X ⟨W, G0, H0, E0⟩ O c fc) (ha : PSs X a (rdSX ⟨W, G0, H0, E0⟩ O O' E' f)) (hb : PSs X b (rdSX ⟨W, G0, H0, E0⟩ O O' E' g)) : PS X (.If c a b pos) (rdSX ⟨W, G0, H0, E0⟩ O O' E' (xIf fc f g)) :=
  PS.imp (ps_if hc ha hb) fun D σ H h => by
    obtain ⟨G, ρ, s, a, p⟩ := h
    refine ⟨G, ρ, s, a, ?_⟩
    unfold xIf at p
    cases e : fc ρ s with
    | bad => rw [e] at p; exact p.elim
    | exc c => rw [e] at p; exact p.elim
    | ok y =>
      obtain ⟨x, s1⟩ := y
      rw [e] at p
      intro G1 H1 g1 S1
      cases x with
      | true => exact ⟨G1, ρ, s1, a.step g1 S1, p⟩
      | false => exact ⟨G1, ρ, s1, a.step g1 S1, p⟩
end
/-- the outcome of a call of the object's def -/
def outX {t1 t2 : Type} (s1 : t1 × t2) (r : R (PD × t2)) (k : PD → Fl) : RX (Fl × (t1 × t2)) (t1 × t2) := match r with
  | .ok (d, t') => if isD d then .ok (k d, (s1.1, t')) else .bad
  | .exc c => .exc c s1
  | .bad => .bad
def xSetM {t1 t2 : Type} (i n : Nat) (m : List PD → t2 → R (PD × t2)) (o : Env → t1 × t2 → R (PD × (t1 × t2))) (a : Env → t1 × t2 → R (List PD × (t1 × t2))) : Env → t1 × t2 → RX (Fl × (t1 × t2)) (t1 × t2) := fun ρ s => match o ρ s with
  | .ok (x, s0) => if isT 1 x = true then (match a ρ s0 with
    | .ok (ds, s1) => if ds.length + 1 = n ∧ allD ds = true then outX s1 (m (tokD 1 :: ds) s1.2) (fun d => .nx (ρ.set i (some d))) else .bad
    | _ => .bad) else .bad
  | _ => .bad
def xSetM0 {t1 t2 : Type} (i : Nat) (m : List PD → t2 → R (PD × t2)) (o : Env → t1 × t2 → R (PD × (t1 × t2))) : Env → t1 × t2 → RX (Fl × (t1 × t2)) (t1 × t2) := fun ρ s => match o ρ s with
  | .ok (x, s1) => if isT 1 x = true then outX s1 (m [tokD 1] s1.2) (fun d => .nx (ρ.set i (some d))) else .bad
  | _ => .bad
def xCallW {t1 t2 : Type} (n : Nat) (m : List PD → t2 → R (PD × t2)) (a : Env → t1 × t2 → R (List PD × (t1 × t2))) : Env → t1 × t2 → RX (Fl × (t1 × t2)) (t1 × t2) := fun ρ s => match a ρ s with
  | .ok (ds, s1) => if ds.length = n ∧ ds.all (okT 1) = true then outX s1 (m ds s1.2) (fun _ => .nx ρ) else .bad
  | _ => .bad
section
variable {X : Cx} {O O' : List Nat} {W1 W2 : Wd} {G0 H0 : Hp} {E' : XK}
theorem PostW.ofX {G H : Hp} {σ : St} {ρ : Env} {s : (W1.and W2).d} {r : R (PD × W2.d)} {k : PD → Fl} {D : Ends} {Q : VK} (a : At ⟨W1.and W2, G0, H0, E0⟩ O σ H G ρ s) (p : PostSX ⟨W1.and W2, G0, H0, E0⟩ O' D E' (outX s r k))
    (hk : ∀ d t' v G' H', isD d = true → At ⟨W1.and W2, G0, H0, E0⟩ O σ H' G' ρ (s.1, t') → Rp (W1.and W2).tk G' v d → PostS ⟨W1.and W2, G0, H0, E0⟩ O' D (.ok (k d, (s.1, t'))) → Q v H') : PostW W1.cls W2 G H r Q E' := by
  cases r with
  | bad => exact p.elim
  | exc c =>
    intro G' H' g
    have g2 : Gr (fun _ => False) G H G H' := ⟨fun _ _ e => e, g.h, g.dom, fun _ _ e => .inl e⟩
    exact p G H' (a.gr.trans (g2.weak fun _ z => z.elim)) (a.sit.pure g2 fun x o e => g.h x o (fun z => z) (a.sit.sub x o e))
  | ok y =>
    obtain ⟨d, t'⟩ := y
    unfold outX at p
    dsimp only at p
    by_cases hd : isD d = true
    · rw [if_pos hd] at p
      intro v G' H' g S rv
      exact hk d t' v G' H' hd (a.step (g.weak fun _ z => .inr z) (a.sit.joinR g S)) (.inl (rv.dg (isD_tok hd))) p
    · rw [if_neg hd] at p; exact p.elim
theorem psx_setM {ι : Type} {F : ι → Wd} {i : ι} (j : Nat) {k : Nat} {f C : Addr} {fd : FuncData} {ps : List Str} {mn x : Str} {n : Nat} {m : ∀ i, List PD → (F i).d → R (PD × (F i).d)} {o e : Expr} {es : List Expr} {fo : Mx ⟨W1.and (F i), G0, H0, E0⟩ PD} {fa : Mx ⟨W1.and (F i), G0, H0, E0⟩ (List PD)} {apos cpos pos pos' : Pos} {pl : Sem Bool} (hN : X.N.Nodup)
    (hF : FnOk X.prog X.w X.K X.mg X.base (L2.CX X.prog X.w) k f fd ps (spW W1.cls F n m)) (hc : Cls X.K C) (hm : Meth X.K C mn f) (hb : Binds X.K fd ps []) (hi : IsInsM (F i) C mn) (hr : Room k X.A) (hx : Passes (L2.CX X.prog X.w) X E') (ho : DE X ⟨W1.and (F i), G0, H0, E0⟩ O o fo) (ha : DA X ⟨W1.and (F i), G0, H0, E0⟩ O (e :: es) fa)
    (hst : starEach (e :: es) X.env = (false, eval e X.env) :: starEach es X.env := by rfl) (hpl : (backTo cpos (starEach es X.env)).any (·.1) = false := by rfl)
    (hev : eval (.Call (.Attribute o mn apos) (e :: es) [] cpos) X.env = (do
      let ov ← eval o X.env
      standAt apos.atName
      let (f, first) ← holding [ov] (getMethod ov mn pl)
      callWith cpos f first (backTo cpos (starEach (e :: es) X.env)) (backToKw cpos (keywordEach [] X.env))) := by rfl)
    (hj : X.N[j]? = some x := by rfl) (hl : Loc X.env.scope x := by first | exact Or.inl rfl | exact Or.inr rfl) (hO : j ∉ O := by decide)
    (hs : swapsWith (.Call (.Attribute o mn apos) (e :: es) [] cpos) (some (.Name x pos')) pos.line X.env = pure false := by rfl) (hf : X.fn x = true ∨ X.env.scope.names.lookup x = some .local := by first | exact .inl rfl | exact .inr rfl) :
    PS X (.Assign [.Name x pos'] (.Call (.Attribute o mn apos) (e :: es) [] cpos) pos) (rdSX ⟨W1.and (F i), G0, H0, E0⟩ O O E' (xSetM (t1 := W1.d) (t2 := (F i).d) j n (m i) fo fa)) := by
  refine PS.imp (ps_set hN hj hl (pe_meth ho hc hm hF hr hb .nil hx ha hst hpl hev) hs hf) fun D σ H h => ?_
  obtain ⟨G, ρ, s, a, p⟩ := h
  refine ⟨G, ρ, s, a, ?_⟩
  unfold xSetM at p
  cases e1 : fo ρ s with
  | bad => rw [e1] at p; exact p.elim
  | exc c => rw [e1] at p; exact p.elim
  | ok y =>
    obtain ⟨dx, s1⟩ := y
    rw [e1] at p
    dsimp only at p
    intro v G1 H1 g1 S1 rx
    have a1 := a.step g1 S1
    by_cases hd : isT 1 dx = true
    · rw [if_pos hd] at p
      have hv := Rp.isT1 rx hd
      obtain ⟨y, dy, fs, e2, e3, e4⟩ := hi a1.sit.rep.2.1
      refine ⟨y, dy, fs, hv.trans e2, e3, e4, G1, ρ, s1, a1, ?_⟩
      cases e5 : fa ρ s1 with
      | bad => rw [e5] at p; exact p.elim
      | exc c => rw [e5] at p; exact p.elim
      | ok z =>
        obtain ⟨ds, s2⟩ := z
        rw [e5] at p
        dsimp only at p
        intro vs G2 H2 g2 S2 rv
        have a2 := a1.step g2 S2
        by_cases hl2 : ds.length + 1 = n ∧ allD ds = true
        · rw [if_pos hl2] at p
          rw [List.append_nil]
          refine ⟨i, G2, tokD 1 :: ds, s2.2, a2.sit.right, .cons (.inr ⟨1, rfl, hv⟩) (DgAll.rp (rv.dg hl2.2)), hl2.1, PostW.ofX a2 p fun d t' v G' H' hd a' rv' p' => ?_⟩
          exact p' _ G' H' ⟨a'.sit, a'.gr, a'.rs.set rv' hO⟩
        · rw [if_neg hl2] at p; exact p.elim
    · rw [if_neg hd] at p; exact p.elim
theorem psx_setM0 {ι : Type} {F : ι → Wd} {i : ι} (j : Nat) {k : Nat} {f C : Addr} {fd : FuncData} {ps : List Str} {mn x : Str} {m : ∀ i, List PD → (F i).d → R (PD × (F i).d)} {o : Expr} {fo : Mx ⟨W1.and (F i), G0, H0, E0⟩ PD} {apos cpos pos pos' : Pos} {pl : Sem Bool} (hN : X.N.Nodup)
    (hF : FnOk X.prog X.w X.K X.mg X.base (L2.CX X.prog X.w) k f fd ps (spW W1.cls F 1 m)) (hc : Cls X.K C) (hm : Meth X.K C mn f) (hb : Binds X.K fd ps []) (hi : IsInsM (F i) C mn) (hr : Room k X.A) (hx : Passes (L2.CX X.prog X.w) X E') (ho : DE X ⟨W1.and (F i), G0, H0, E0⟩ O o fo)
    (hev : eval (.Call (.Attribute o mn apos) [] [] cpos) X.env = (do
      let ov ← eval o X.env
      standAt apos.atName
      let (f, first) ← holding [ov] (getMethod ov mn pl)
      callWith cpos f first (backTo cpos (starEach [] X.env)) (backToKw cpos (keywordEach [] X.env))) := by rfl)
    (hj : X.N[j]? = some x := by rfl) (hl : Loc X.env.scope x := by first | exact Or.inl rfl | exact Or.inr rfl) (hO : j ∉ O := by decide)
    (hs : swapsWith (.Call (.Attribute o mn apos) [] [] cpos) (some (.Name x pos')) pos.line X.env = pure false := by rfl) (hf : X.fn x = true ∨ X.env.scope.names.lookup x = some .local := by first | exact .inl rfl | exact .inr rfl) :
    PS X (.Assign [.Name x pos'] (.Call (.Attribute o mn apos) [] [] cpos) pos) (rdSX ⟨W1.and (F i), G0, H0, E0⟩ O O E' (xSetM0 (t1 := W1.d) (t2 := (F i).d) j (m i) fo)) := by
  refine PS.imp (ps_set hN hj hl (pe_meth0 ho hc hm hF hr hb .nil hx hev) hs hf) fun D σ H h => ?_
  obtain ⟨G, ρ, s, a, p⟩ := h
  refine ⟨G, ρ, s, a, ?_⟩
  unfold xSetM0 at p
  cases e1 : fo ρ s with
  | bad => rw [e1] at p; exact p.elim
  | exc c => rw [e1] at p; exact p.elim
  | ok y =>
    obtain ⟨dx, s1⟩ := y
    rw [e1] at p
    dsimp only at p
    intro v G1 H1 g1 S1 rx
    have a1 := a.step g1 S1
    by_cases hd : isT 1 dx = true
    · rw [if_pos hd] at p
      have hv := Rp.isT1 rx hd
      obtain ⟨y, dy, fs, e2, e3, e4⟩ := hi a1.sit.rep.2.1
      refine ⟨y, dy, fs, hv.trans e2, e3, e4, i, G1, [tokD 1], s1.2, a1.sit.right, .cons (.inr ⟨1, rfl, hv⟩) .nil, rfl, PostW.ofX a1 p fun d t' v G' H' hd a' rv' p' => ?_⟩
      exact p' _ G' H' ⟨a'.sit, a'.gr, a'.rs.set rv' hO⟩
    · rw [if_neg hd] at p; exact p.elim
theorem psx_callW {ι : Type} {F : ι → Wd} {i : ι} {k : Nat} {f : Addr} {fd : FuncData} {ps : List Str} {x : Str} {n : Nat} {m : ∀ i, List PD → (F i).d → R (PD × (F i).d)} {e : Expr} {es : List Expr} {fa : Mx ⟨W1.and (F i), G0, H0, E0⟩ (List PD)} {p cpos pos : Pos}
    (hF : FnOk X.prog X.w X.K X.mg X.base (L2.CX X.prog X.w) k f fd ps (spW W1.cls F n m)) (hm : X.mg x = some (.ref f)) (hk : PySem.W.keepIn X.K (.ref f) = true) (hb : Binds X.K fd ps []) (ht : ∀ n, (F i).tk n = (F i).tk 1) (hr : Room k X.A) (hx : Passes (L2.CX X.prog X.w) X E') (ha : DA X ⟨W1.and (F i), G0, H0, E0⟩ O (e :: es) fa) (hg : Gl X x := by rfl)
    (hdb : (x == ("__debug__" : Str)) = false := by decide) (he : starEach (e :: es) X.env = (false, eval e X.env) :: starEach es X.env := by rfl) (hpl : (backTo cpos (starEach es X.env)).any (·.1) = false := by rfl)
    (hs : swapsWith (.Call (.Name x p) (e :: es) [] cpos) none pos.line X.env = pure false := by rfl) :
    PS X (.Expr (.Call (.Name x p) (e :: es) [] cpos) pos) (rdSX ⟨W1.and (F i), G0, H0, E0⟩ O O E' (xCallW (t1 := W1.d) (t2 := (F i).d) n (m i) fa)) := by
  refine PS.imp (ps_expr (pe_call hF hr hg hm hk hb .nil hx ha hdb he hpl) hs) fun D σ H h => ?_
  obtain ⟨G, ρ, s, a, p⟩ := h
  refine ⟨G, ρ, s, a, ?_⟩
  unfold xCallW at p
  cases e5 : fa ρ s with
  | bad => rw [e5] at p; exact p.elim
  | exc c => rw [e5] at p; exact p.elim
  | ok z =>
    obtain ⟨ds, s2⟩ := z
    rw [e5] at p
    dsimp only at p
    intro vs G2 H2 g2 S2 rv
    have a2 := a.step g2 S2
    by_cases hl2 : ds.length = n ∧ ds.all (okT 1) = true
    · rw [if_pos hl2] at p
      rw [List.append_nil]
      exact ⟨i, G2, ds, s2.2, a2.sit.right, RpAll.one ht rv hl2.2, hl2.1, PostW.ofX a2 p fun d t' v G' H' hd a' rv' p' => p' _ G' H' a'⟩
    · rw [if_neg hl2] at p; exact p.elim
end
/-! ### try: .. except AlarmError as e: caught = e; return .. if caught is None else _law_error(caught) -/
def sTryX {d : Type} (fb : Env → d → RX (Fl × d) d) (j : Nat) (fe : Env → d → R (PD × d)) (nm : Nat → Str) : Env → d → R (Fl × d) := fun ρ s => match fb ρ s with
  | .ok (.nx ρ', s') => (match ρ'[j]? with
    | some (some .none) => bnd (fe ρ' s') fun v s2 => .ok (.rt v, s2)
    | _ => .bad)
  | .exc c s' => if c < 5 then .ok (.rt (.str (nm c)), s') else .bad
  | _ => .bad
section
variable {X : Cx} {W : Wd} {G0 H0 : Hp}
theorem dss_tryX {body : List Stmt} {e1 : Expr} {fb : Env → W.d → RX (Fl × W.d) W.d} {fe : Mx ⟨W, G0, H0, E0⟩ PD} {nm : Nat → Str} {i j k : Nat} {f : Addr} {fd : FuncData} {ps : List Str} {al : Addr} {np p1 p2 p3 p4 p5 p6 p7 p8 pos pos' posr posi : Pos} {cst : Expr}
    (hex0 : X.ex = []) (hs : X.stack = X.env :: X.outer) (hf : X.env.frame = some X.env.locals) (hN : X.N.Nodup) (hi : X.N[i]? = some ("e" : Str)) (hj : X.N[j]? = some ("caught" : Str)) (hij : i ≠ j) (hln : X.env.kindOf "e" = some .local) (hlm : X.env.scope.names.lookup ("caught" : Str) = some .local)
    (hal : X.mg "AlarmError" = some (.ref al)) (hgl : Gl X "AlarmError") (hexm : ∀ c, c < 5 → PySem.W.exmOne X.K (.ref (W.cls c)) (.ref al) = some true) (hsw : swapsWith (.Name "e" p2) (some (.Name "caught" p1)) p3.line X.env = pure false)
    (hb : ∀ (pn : List (Addr × Obj)) (xe : Value → Shared → Prop) (E' : XK), Takes (X.tr pn xe) (fun c d _ H => E' c d H) → PassesOwn (model X.prog X.w) X.A X.env xe → PSs (X.tr pn xe) body (rdSX ⟨W, G0, H0, E0⟩ [] [] E' fb))
    (he : DE X ⟨W, G0, H0, E0⟩ [] e1 fe) (F : FnOk X.prog X.w X.K X.mg X.base (L2.CX X.prog X.w) k f fd ps (spX W.cls nm)) (hr : Room k X.A) (hmE : X.mg "_law_error" = some (.ref f)) (hk : PySem.W.keepIn X.K (.ref f) = true) (hbd : Binds X.K fd ps []) (hgE : Gl X "_law_error")
    (hpn : PE X cst (tC .non)) (hmk : behindInMarks .Is cst = false) (hst : starEach [.Name "caught" p5] X.env = (false, eval (.Name "caught" p5) X.env) :: starEach [] X.env) (hpl : (backTo p6 (starEach [] X.env)).any (·.1) = false) :
    DSs X ⟨W, G0, H0, E0⟩ [] [] [.Try body [.ExceptHandler (some (.Name "AlarmError" np)) (some "e") [.Assign [.Name "caught" p1] (.Name "e" p2) p3] pos'] [] [] pos, .Return (some (.IfExp (.Compare (.Name "caught" p4) [.Is] [cst] p8) e1 (.Call (.Name "_law_error" p7) [.Name "caught" p5] [] p6) posi)) posr] (sTryX fb j fe nm) := by
  have hv : Vis X.env.scope "caught" := .inl hlm
  have pc : ∀ {p : Pos}, PE X (.Name "caught" p) (tVar j) := fun {p} => pe_var hj hv
  have ret := ps_ret (pos := posr) (pe_ifExp (pos := posi) (pt_cmpR (pos := p8) op_isN (pc (p := p4)) hpn hmk) he (pe_call (p := p7) F hr hgE hmE hk hbd .nil passL (pa_cons (pc (p := p5)) pa_nil hst) (by decide) hst hpl))
  have trY := ps_try_keep (X := X) (body := body) (tb := fun Wx => rdSX ⟨W, G0, H0, E0⟩ [] [] (fun c d H => ∀ σ, Wx c d σ H) fb) (np := np) (p1 := p1) (p2 := p2) (p3 := p3) (pos := pos) (pos' := pos') (c := .ref al) (x := "AlarmError") hex0 hs hf hN hi hj hln hlm ⟨hgl, by decide, .inl hal⟩ (.inl hln) (by decide) (by decide) hsw
    fun Wx pn xe tk' po => hb pn xe _ (tk'.imp fun c d σ H h => h σ) po
  refine PSs.imp (pss_cons trY (pss_cons ret pss_nil)) fun D σ H h => ?_
  obtain ⟨G, ρ, s, a, p⟩ := h
  refine ⟨G, ρ, s, a, ?_⟩
  unfold sTryX at p
  revert p
  cases fb ρ s with
  | bad => exact fun p => p.elim
  | exc c s' =>
    intro p
    dsimp only at p
    by_cases hc : c < 5
    · rw [if_pos hc] at p
      intro G' H' g S' σ'
      refine ⟨hexm c hc, rfl, fun hlen b hb' => ?_⟩
      have hjl : j < σ'.length := by rw [hlen]; exact (List.getElem?_eq_some_iff.mp hj).1
      have hget : (((σ'.set i (some (V.ref b))).set j (some (V.ref b))).set i none)[j]? = some (some (V.ref b)) := by
        rw [List.getElem?_set_ne hij, List.getElem?_set_self (by rw [List.length_set]; exact hjl)]
      refine ⟨V.ref b, hget, rfl, decide (V.ref b = V.non), rfl, ?_⟩
      dsimp only
      rw [if_neg (by simp)]
      refine ⟨V.ref b, hget, b, c, rfl, hc, upd_same, fun H2 k1 k2 => ?_⟩
      have hne : ∀ x o, H' x = some o → x ≠ b := fun x o hx z => by rw [z, hb'] at hx; cases hx
      have kk : ∀ x o, H' x = some o → H2 x = some o := fun x o h1 => k1 x o (hne x o h1) (by rw [upd_ne (hne x o h1)]; exact h1)
      have dm : ∀ x, H2 x = none → H' x = none := fun x hx => by
        have h1 := k2 x hx
        have h2 : x ≠ b := fun z => by rw [z, upd_same] at h1; cases h1
        rw [upd_ne h2] at h1
        exact h1
      have g2 : Gr (fun _ => False) G' H' G' H2 := ⟨fun _ _ e => e, fun x o _ e => kk x o e, dm, fun _ _ e => .inl e⟩
      exact p (.str (nm c)) G' H2 (g.trans (g2.weak fun _ z => z.elim)) (S'.pure g2 fun x o e => kk x o (S'.sub x o e)) (.inl (.str _))
    · rw [if_neg hc] at p; exact p.elim
  | ok y =>
    obtain ⟨fl, s'⟩ := y
    cases fl with
    | nx ρ' =>
      intro p σ' G' H' a'
      dsimp only at p
      cases hρ : ρ'[j]? with
      | none => rw [hρ] at p; exact p.elim
      | some o =>
        cases o with
        | none => rw [hρ] at p; exact p.elim
        | some d =>
          cases d with
          | none =>
            rw [hρ] at p
            dsimp only at p
            obtain ⟨v, hv1, hv2⟩ := a'.rs.plain j .none hρ (by simp)
            have hvn : v = .non := by
              rcases hv2 with r | ⟨n, e, _⟩
              · cases r; rfl
              · cases e
            subst hvn
            refine ⟨V.non, hv1, rfl, decide (V.non = V.non), rfl, ?_⟩
            dsimp only
            rw [if_pos (by simp)]
            refine ⟨G', ρ', s', ⟨a'.sit, a'.gr, a'.rs⟩, ?_⟩
            revert p
            cases fe ρ' s' with
            | ok z =>
              intro p v2 G2 H2 g2 S2 r2
              exact p v2 G2 H2 (a'.gr.trans g2) S2 r2
            | exc c => exact fun p G2 H2 g2 => p G2 H2 (a'.gr.trans g2)
            | bad => exact fun p => p
          | _ => rw [hρ] at p; exact p.elim
    | _ => exact fun p => p.elim
end
end DL

/-! DLU: the watch's methods by their names; what a derivation names -/
namespace DL
open PySem PySem.Spec PyProof.Rows L2
/-- a method of the class Watch -/
structure FnM (P : Program) (w : World) (K : PySem.W.Frag) (mg : Str → Option Value) (base : Heap) (cls : Nat → Addr) (C : Addr) (k : Nat) (x : Str) (n : Nat) (m : List PD → Wt → R (PD × Wt)) : Prop where
  ex : ∃ f fd ps, FnOk P w K mg base (L2.CX P w) k f fd ps (spW cls (Ww cls C) n fun _ => m) ∧ Meth K C x f ∧ Binds K fd ps [] ∧ ¬ x = "line" ∧ ¬ x = "threshold"
/-- its __len__ -/
structure FnL (P : Program) (w : World) (K : PySem.W.Frag) (mg : Str → Option Value) (base : Heap) (cls : Nat → Addr) (C : Addr) (k : Nat) : Prop where
  ex : ∃ f fd, FnOk P w K mg base (L2.CX P w) k f fd ["self"] (spW cls (Ww cls C) 1 fun _ => m_wlen) ∧ Meth K C "__len__" f ∧ Binds K fd ["self"] []
/-- its __init__ -/
structure FnI (P : Program) (w : World) (K : PySem.W.Frag) (mg : Str → Option Value) (base : Heap) (cls : Nat → Addr) (C : Addr) (k : Nat) : Prop where
  ex : ∃ f fd, FnOk P w K mg base (L2.CX P w) k f fd ["self", "threshold"] (spInitW cls C) ∧ Mk K C f ∧ Binds K fd ["self", "threshold"] []
/-- a def that is handed an object -/
structure FnO {ι : Type} (P : Program) (w : World) (K : PySem.W.Frag) (mg : Str → Option Value) (base : Heap) (cls : Nat → Addr) (F : ι → Wd) (k : Nat) (x : Str) (n : Nat) (m : ∀ i, List PD → (F i).d → R (PD × (F i).d)) : Prop where
  ex : ∃ f fd ps, FnOk P w K mg base (L2.CX P w) k f fd ps (spW cls F n m) ∧ mg x = some (.ref f) ∧ PySem.W.keepIn K (.ref f) = true ∧ Binds K fd ps []
theorem Ww_tk {cls : Nat → Addr} {C : Addr} {i : Addr × Addr × Addr} (n : Nat) : (Ww cls C i).tk n = (Ww cls C i).tk 1 := rfl
section
variable {X : Cx} {O O' : List Nat} {W1 : Wd} {C : Addr} {i : Addr × Addr × Addr} {G0 H0 : Hp} {E : XK}
theorem de_mW {cls : Nat → Addr} {k : Nat} {mn : Str} {n : Nat} {m : List PD → Wt → R (PD × Wt)} {o e : Expr} {es : List Expr} {fo : Mx ⟨W1.and (Ww cls C i), G0, H0, E⟩ PD} {fa : Mx ⟨W1.and (Ww cls C i), G0, H0, E⟩ (List PD)} {apos pos : Pos} {pl : Sem Bool}
    (M : FnM X.prog X.w X.K X.mg X.base cls C k mn n m) (T : WaC X.K X.mg C) (hr : Room k X.A) (ho : DE X ⟨W1.and (Ww cls C i), G0, H0, E⟩ O o fo) (ha : DA X ⟨W1.and (Ww cls C i), G0, H0, E⟩ O (e :: es) fa)
    (hst : starEach (e :: es) X.env = (false, eval e X.env) :: starEach es X.env := by rfl) (hpl : (backTo pos (starEach es X.env)).any (·.1) = false := by rfl)
    (hev : eval (.Call (.Attribute o mn apos) (e :: es) [] pos) X.env = (do
      let ov ← eval o X.env
      standAt apos.atName
      let (f, first) ← holding [ov] (getMethod ov mn pl)
      callWith pos f first (backTo pos (starEach (e :: es) X.env)) (backToKw pos (keywordEach [] X.env))) := by rfl) :
    DE X ⟨W1.and (Ww cls C i), G0, H0, E⟩ O (.Call (.Attribute o mn apos) (e :: es) [] pos) (cMethW (t1 := W1.d) (t2 := Wt) n m fo fa) := by
  obtain ⟨f, fd, ps, hF, hm, hb, h1, h2⟩ := M.ex
  exact de_methW (F := Ww cls C) (i := i) hF T.cl hm hb (IsInsM.watch h1 h2) Ww_tk hr ho ha hst hpl hev
theorem de_mW0 {cls : Nat → Addr} {k : Nat} {mn : Str} {m : List PD → Wt → R (PD × Wt)} {o : Expr} {fo : Mx ⟨W1.and (Ww cls C i), G0, H0, E⟩ PD} {apos pos : Pos} {pl : Sem Bool}
    (M : FnM X.prog X.w X.K X.mg X.base cls C k mn 1 m) (T : WaC X.K X.mg C) (hr : Room k X.A) (ho : DE X ⟨W1.and (Ww cls C i), G0, H0, E⟩ O o fo)
    (hev : eval (.Call (.Attribute o mn apos) [] [] pos) X.env = (do
      let ov ← eval o X.env
      standAt apos.atName
      let (f, first) ← holding [ov] (getMethod ov mn pl)
      callWith pos f first (backTo pos (starEach [] X.env)) (backToKw pos (keywordEach [] X.env))) := by rfl) :
    DE X ⟨W1.and (Ww cls C i), G0, H0, E⟩ O (.Call (.Attribute o mn apos) [] [] pos) (cMethW0 (t1 := W1.d) (t2 := Wt) m fo) := by
  obtain ⟨f, fd, ps, hF, hm, hb, h1, h2⟩ := M.ex
  exact de_methW0 (F := Ww cls C) (i := i) hF T.cl hm hb (IsInsM.watch h1 h2) Ww_tk hr ho hev
theorem de_lW {cls : Nat → Addr} {k : Nat} {o : Expr} {fo : Mx ⟨W1.and (Ww cls C i), G0, H0, E⟩ PD} {p pos : Pos} (M : FnL X.prog X.w X.K X.mg X.base cls C k) (hr : Room (k + 1) X.A) (hmg : X.mg "len" = none) (ho : DE X ⟨W1.and (Ww cls C i), G0, H0, E⟩ O o fo) (hg : Gl X "len" := by rfl)
    (he : starEach [o] X.env = (false, eval o X.env) :: starEach [] X.env := by rfl) (hpl : (backTo pos (starEach [] X.env)).any (·.1) = false := by rfl) :
    DE X ⟨W1.and (Ww cls C i), G0, H0, E⟩ O (.Call (.Name "len" p) [o] [] pos) (cLenW (t1 := W1.d) fo) := by
  obtain ⟨f, fd, hF, hm, hb⟩ := M.ex
  exact de_lenW hF hm hb hr hmg ho hg he hpl
theorem de_oW {ι : Type} {F : ι → Wd} {i : ι} {cls : Nat → Addr} {k : Nat} {x : Str} {n : Nat} {m : ∀ i, List PD → (F i).d → R (PD × (F i).d)} {e : Expr} {es : List Expr} {fa : Mx ⟨W1.and (F i), G0, H0, E⟩ (List PD)} {p pos : Pos}
    (M : FnO X.prog X.w X.K X.mg X.base cls F k x n m) (ht : ∀ n, (F i).tk n = (F i).tk 1) (hr : Room k X.A) (ha : DA X ⟨W1.and (F i), G0, H0, E⟩ O (e :: es) fa) (hg : Gl X x := by rfl)
    (hdb : (x == ("__debug__" : Str)) = false := by decide) (he : starEach (e :: es) X.env = (false, eval e X.env) :: starEach es X.env := by rfl) (hpl : (backTo pos (starEach es X.env)).any (·.1) = false := by rfl) : DE X ⟨W1.and (F i), G0, H0, E⟩ O (.Call (.Name x p) (e :: es) [] pos) (cCallW (t1 := W1.d) (t2 := (F i).d) n (m i) fa) := by
  obtain ⟨f, fd, ps, hF, hm, hk, hb⟩ := M.ex
  exact de_callW hF hm hk hb ht hr ha hg hdb he hpl
end
section
variable {X : Cx} {O O' : List Nat} {W1 : Wd} {C : Addr} {i : Addr × Addr × Addr} {G0 H0 : Hp} {E' : XK}
theorem psx_mW (j : Nat) {k : Nat} {mn x : Str} {n : Nat} {m : List PD → Wt → R (PD × Wt)} {o e : Expr} {es : List Expr} {fo : Mx ⟨W1.and (Ww W1.cls C i), G0, H0, E0⟩ PD} {fa : Mx ⟨W1.and (Ww W1.cls C i), G0, H0, E0⟩ (List PD)} {apos cpos pos pos' : Pos} {pl : Sem Bool} (hN : X.N.Nodup)
    (M : FnM X.prog X.w X.K X.mg X.base W1.cls C k mn n m) (T : WaC X.K X.mg C) (hr : Room k X.A) (hx : Passes (L2.CX X.prog X.w) X E') (ho : DE X ⟨W1.and (Ww W1.cls C i), G0, H0, E0⟩ O o fo) (ha : DA X ⟨W1.and (Ww W1.cls C i), G0, H0, E0⟩ O (e :: es) fa)
    (hst : starEach (e :: es) X.env = (false, eval e X.env) :: starEach es X.env := by rfl) (hpl : (backTo cpos (starEach es X.env)).any (·.1) = false := by rfl)
    (hev : eval (.Call (.Attribute o mn apos) (e :: es) [] cpos) X.env = (do
      let ov ← eval o X.env
      standAt apos.atName
      let (f, first) ← holding [ov] (getMethod ov mn pl)
      callWith cpos f first (backTo cpos (starEach (e :: es) X.env)) (backToKw cpos (keywordEach [] X.env))) := by rfl)
    (hj : X.N[j]? = some x := by rfl) (hl : Loc X.env.scope x := by first | exact Or.inl rfl | exact Or.inr rfl) (hO : j ∉ O := by decide)
    (hs : swapsWith (.Call (.Attribute o mn apos) (e :: es) [] cpos) (some (.Name x pos')) pos.line X.env = pure false := by rfl) (hf : X.fn x = true ∨ X.env.scope.names.lookup x = some .local := by first | exact .inl rfl | exact .inr rfl) :
    PS X (.Assign [.Name x pos'] (.Call (.Attribute o mn apos) (e :: es) [] cpos) pos) (rdSX ⟨W1.and (Ww W1.cls C i), G0, H0, E0⟩ O O E' (xSetM (t1 := W1.d) (t2 := Wt) j n m fo fa)) := by
  obtain ⟨f, fd, ps, hF, hm, hb, h1, h2⟩ := M.ex
  exact psx_setM (F := Ww W1.cls C) (i := i) j hN hF T.cl hm hb (IsInsM.watch h1 h2) hr hx ho ha hst hpl hev hj hl hO hs hf
theorem psx_mW0 (j : Nat) {k : Nat} {mn x : Str} {m : List PD → Wt → R (PD × Wt)} {o : Expr} {fo : Mx ⟨W1.and (Ww W1.cls C i), G0, H0, E0⟩ PD} {apos cpos pos pos' : Pos} {pl : Sem Bool} (hN : X.N.Nodup)
    (M : FnM X.prog X.w X.K X.mg X.base W1.cls C k mn 1 m) (T : WaC X.K X.mg C) (hr : Room k X.A) (hx : Passes (L2.CX X.prog X.w) X E') (ho : DE X ⟨W1.and (Ww W1.cls C i), G0, H0, E0⟩ O o fo)
    (hev : eval (.Call (.Attribute o mn apos) [] [] cpos) X.env = (do
      let ov ← eval o X.env
      standAt apos.atName
      let (f, first) ← holding [ov] (getMethod ov mn pl)
      callWith cpos f first (backTo cpos (starEach [] X.env)) (backToKw cpos (keywordEach [] X.env))) := by rfl)
    (hj : X.N[j]? = some x := by rfl) (hl : Loc X.env.scope x := by first | exact Or.inl rfl | exact Or.inr rfl) (hO : j ∉ O := by decide)
    (hs : swapsWith (.Call (.Attribute o mn apos) [] [] cpos) (some (.Name x pos')) pos.line X.env = pure false := by rfl) (hf : X.fn x = true ∨ X.env.scope.names.lookup x = some .local := by first | exact .inl rfl | exact .inr rfl) :
    PS X (.Assign [.Name x pos'] (.Call (.Attribute o mn apos) [] [] cpos) pos) (rdSX ⟨W1.and (Ww W1.cls C i), G0, H0, E0⟩ O O E' (xSetM0 (t1 := W1.d) (t2 := Wt) j m fo)) := by
  obtain ⟨f, fd, ps, hF, hm, hb, h1, h2⟩ := M.ex
  exact psx_setM0 (F := Ww W1.cls C) (i := i) j hN hF T.cl hm hb (IsInsM.watch h1 h2) hr hx ho hev hj hl hO hs hf
theorem psx_oW {ι : Type} {F : ι → Wd} {i : ι} {k : Nat} {x : Str} {n : Nat} {m : ∀ i, List PD → (F i).d → R (PD × (F i).d)} {e : Expr} {es : List Expr} {fa : Mx ⟨W1.and (F i), G0, H0, E0⟩ (List PD)} {p cpos pos : Pos}
    (M : FnO X.prog X.w X.K X.mg X.base W1.cls F k x n m) (ht : ∀ n, (F i).tk n = (F i).tk 1) (hr : Room k X.A) (hx : Passes (L2.CX X.prog X.w) X E') (ha : DA X ⟨W1.and (F i), G0, H0, E0⟩ O (e :: es) fa) (hg : Gl X x := by rfl)
    (hdb : (x == ("__debug__" : Str)) = false := by decide) (he : starEach (e :: es) X.env = (false, eval e X.env) :: starEach es X.env := by rfl) (hpl : (backTo cpos (starEach es X.env)).any (·.1) = false := by rfl)
    (hs : swapsWith (.Call (.Name x p) (e :: es) [] cpos) none pos.line X.env = pure false := by rfl) :
    PS X (.Expr (.Call (.Name x p) (e :: es) [] cpos) pos) (rdSX ⟨W1.and (F i), G0, H0, E0⟩ O O E' (xCallW (t1 := W1.d) (t2 := (F i).d) n (m i) fa)) := by
  obtain ⟨f, fd, ps, hF, hm, hk, hb⟩ := M.ex
  exact psx_callW hF hm hk hb ht hr hx ha hg hdb he hpl hs
end
section
variable {X : Cx} {O O' : List Nat} {W : Wd} {G0 H0 : Hp}
theorem dss_nW (i : Nat) {C : Addr} {k : Nat} {x : Str} {e : Expr} {fe : Mx ⟨W, G0, H0, E0⟩ PD} {rest : List Stmt} {fr : Env → W.d × Wt → R (Fl × (W.d × Wt))} {p cpos pos pos' : Pos} (hN : X.N.Nodup) (T : WaC X.K X.mg C) (I : FnI X.prog X.w X.K X.mg X.base W.cls C k)
    (hr : Room (k + 1) X.A) (he : DE X ⟨W, G0, H0, E0⟩ O e fe) (hrest : ∀ j, DSs X ⟨W.and (Ww W.cls C j), G0, H0, E0⟩ O O' rest fr)
    (hi : X.N[i]? = some x := by rfl) (hx : Loc X.env.scope x := by first | exact Or.inl rfl | exact Or.inr rfl) (hO : i ∉ O := by decide) (hg : Gl X "Watch" := by rfl)
    (hs : swapsWith (.Call (.Name "Watch" p) [e] [] cpos) (some (.Name x pos')) pos.line X.env = pure false := by rfl) (hf : X.fn x = true ∨ X.env.scope.names.lookup x = some .local := by first | exact .inl rfl | exact .inr rfl)
    (hst : starEach [e] X.env = (false, eval e X.env) :: starEach [] X.env := by rfl) (hpl : (backTo cpos (starEach [] X.env)).any (·.1) = false := by rfl) :
    DSs X ⟨W, G0, H0, E0⟩ O O' (.Assign [.Name x pos'] (.Call (.Name "Watch" p) [e] [] cpos) pos :: rest) (sNewW i fe fr) := by
  obtain ⟨f, fd, hF, hM, hb⟩ := I.ex
  exact dss_newW i hN T hM hF hb hr he hrest hi hx hO hg hs hf hst hpl
theorem dss_nW2 (i j : Nat) {C : Addr} {k : Nat} {x y : Str} {e : Expr} {fe : Mx ⟨W, G0, H0, E0⟩ PD} {rest : List Stmt} {fr : Env → W.d × Wt → R (Fl × (W.d × Wt))} {p cpos px py pt pt2 pl pos : Pos} {kt k2 : Nat} (hN : X.N.Nodup) (T : WaC X.K X.mg C) (I : FnI X.prog X.w X.K X.mg X.base W.cls C k)
    (hr : Room (k + 1) X.A) (he : DE X ⟨W, G0, H0, E0⟩ O e fe) (hrest : ∀ j, DSs X ⟨W.and (Ww W.cls C j), G0, H0, E0⟩ O O' rest fr)
    (hc : X.calm = true := by rfl) (hi : X.N[i]? = some x := by rfl) (hj : X.N[j]? = some y := by rfl) (hij : i ≠ j := by decide) (hx : X.env.scope.names.lookup x = some .local := by rfl) (hy : X.env.scope.names.lookup y = some .local := by rfl) (hOi : i ∉ O := by decide) (hOj : j ∉ O := by decide) (hg : Gl X "Watch" := by rfl)
    (hw : swappedStores [.Tuple [.Name x px, .Name y py] kt pt] (.Tuple [.Call (.Name "Watch" p) [e] [] cpos, .List [] pl] k2 pt2) X.env = pure (some [x, y]) := by rfl)
    (hs : swapsWithSole [.Tuple [.Name x px, .Name y py] kt pt] (.Tuple [.Call (.Name "Watch" p) [e] [] cpos, .List [] pl] k2 pt2) pos.line X.env = pure false := by rfl)
    (hst : starEach [e] X.env = (false, eval e X.env) :: starEach [] X.env := by rfl) (hpl : (backTo cpos (starEach [] X.env)).any (·.1) = false := by rfl) 
    (hs2 : starEach [.Call (.Name "Watch" p) [e] [] cpos, .List [] pl] X.env = (false, eval (.Call (.Name "Watch" p) [e] [] cpos) X.env) :: starEach [.List [] pl] X.env := by rfl) (hs3 : starEach [.List [] pl] X.env = (false, eval (.List [] pl) X.env) :: starEach [] X.env := by rfl) :
    DSs X ⟨W, G0, H0, E0⟩ O O' (.Assign [.Tuple [.Name x px, .Name y py] kt pt] (.Tuple [.Call (.Name "Watch" p) [e] [] cpos, .List [] pl] k2 pt2) pos :: rest) (sNewW2 i j fe fr) := by
  obtain ⟨f, fd, hF, hM, hb⟩ := I.ex
  exact dss_newW2 i j hN T hM hF hb hr he hrest hc hi hj hij hx hy hOi hOj hg hw hs hst hpl hs2 hs3
end
/-- .. of the watch -/
theorem de_oWw {X : Cx} {O : List Nat} {W1 : Wd} {C : Addr} {i : Addr × Addr × Addr} {G0 H0 : Hp} {E : XK} {cls : Nat → Addr} {k : Nat} {x : Str} {n : Nat} {m : List PD → Wt → R (PD × Wt)} {e : Expr} {es : List Expr} {fa : Mx ⟨W1.and (Ww cls C i), G0, H0, E⟩ (List PD)} {p pos : Pos}
    (M : FnO X.prog X.w X.K X.mg X.base cls (Ww cls C) k x n (fun _ => m)) (hr : Room k X.A) (ha : DA X ⟨W1.and (Ww cls C i), G0, H0, E⟩ O (e :: es) fa) (hg : Gl X x := by rfl)
    (hdb : (x == ("__debug__" : Str)) = false := by decide) (he : starEach (e :: es) X.env = (false, eval e X.env) :: starEach es X.env := by rfl) (hpl : (backTo pos (starEach es X.env)).any (·.1) = false := by rfl) : DE X ⟨W1.and (Ww cls C i), G0, H0, E⟩ O (.Call (.Name x p) (e :: es) [] pos) (cCallW (t1 := W1.d) (t2 := Wt) n m fa) :=
  de_oW (F := Ww cls C) (i := i) M (fun _ => rfl) hr ha hg hdb he hpl
theorem psx_oWw {X : Cx} {O : List Nat} {W1 : Wd} {C : Addr} {i : Addr × Addr × Addr} {G0 H0 : Hp} {E' : XK} {k : Nat} {x : Str} {n : Nat} {m : List PD → Wt → R (PD × Wt)} {e : Expr} {es : List Expr} {fa : Mx ⟨W1.and (Ww W1.cls C i), G0, H0, E0⟩ (List PD)} {p cpos pos : Pos}
    (M : FnO X.prog X.w X.K X.mg X.base W1.cls (Ww W1.cls C) k x n (fun _ => m)) (hr : Room k X.A) (hx : Passes (L2.CX X.prog X.w) X E') (ha : DA X ⟨W1.and (Ww W1.cls C i), G0, H0, E0⟩ O (e :: es) fa) (hg : Gl X x := by rfl)
    (hdb : (x == ("__debug__" : Str)) = false := by decide) (he : starEach (e :: es) X.env = (false, eval e X.env) :: starEach es X.env := by rfl) (hpl : (backTo cpos (starEach es X.env)).any (·.1) = false := by rfl)
    (hs : swapsWith (.Call (.Name x p) (e :: es) [] cpos) none pos.line X.env = pure false := by rfl) :
    PS X (.Expr (.Call (.Name x p) (e :: es) [] cpos) pos) (rdSX ⟨W1.and (Ww W1.cls C i), G0, H0, E0⟩ O O E' (xCallW (t1 := W1.d) (t2 := Wt) n m fa)) :=
  psx_oW (F := Ww W1.cls C) (i := i) M (fun _ => rfl) hr hx ha hg hdb he hpl hs
/-! ### a pure def without errors that leave it -/
def mBody0 (n : Nat) (f : Env → Unit → R (Fl × Unit)) : List PD → R PD := fun ds => match f (ds.map some ++ List.replicate n none) () with
  | .ok (.rt d, _) => .ok d
  | .ok (.nx _, _) => .ok .none
  | _ => .bad
section
variable {P : Program} {w : World} {K : PySem.W.Frag} {mg : Str → Option Value} {base : Heap} {x qual : Str} {params : Arguments} {body : List Stmt} {scope : Scope} {f : Addr} {fd : FuncData} {cls : Nat → Addr}
theorem fn_pure0 {N ps : List Str} {k n : Nat} {fb : Env → Unit → R (Fl × Unit)} (F : FunD K x qual params body scope [] [] f fd) (S : FnScope N ps scope) (hm : mg x = some (.ref f)) (hn : ps.length = n) (hb : Binds K fd ps [])
    (hbody : ∀ (cdv : Value) (A : Around) (outer : List PySem.Env) (s : Shared) (H : Hp) (E : XK) (tk : Nat → V) (G : Hp), Room k (A.deeper (envOfC qual scope s.heap.objs.size f cdv)) →
      DSs (cxOf (L2.CX P w) P w K mg base N qual scope f cdv A outer s H E) ⟨Wp cls tk, G, H, E0⟩ [] [] body fb) : FnP P w K mg base cls (k + 1) x n (mBody0 (N.length - n) fb) := by
  refine ⟨f, fd, ps, F.ok S (fun vs H Q E h => ?_) (fun cdv A outer s H vs Q E hr h => ?_), hm, F.kp, hb⟩
  · obtain ⟨tk, G, ds, _, r, hl, _⟩ := h
    rw [r.len, hl, hn]
  · obtain ⟨tk, G, ds, sb, r, hl, p⟩ := h
    refine ⟨_, hbody cdv A outer s H E tk G hr, G, startD N ds, (), ⟨⟨sb, fun _ z => z.elim, fun _ z => z.elim, trivial⟩, .refl, r.begin_ N⟩, ?_⟩
    unfold mBody0 at p
    have e0 : startD N ds = ds.map some ++ List.replicate (N.length - n) none := by unfold startD; rw [hl]
    rw [e0]
    revert p
    generalize fb (ds.map some ++ List.replicate (N.length - n) none) () = r'
    intro p
    cases r' with
    | bad => exact p.elim
    | exc c => exact p.elim
    | ok y =>
      obtain ⟨fl, u⟩ := y
      cases fl with
      | nx ρ => exact fun σ' G' H' a => p .non G' H' a.gr a.sit.sub (.inl .non)
      | rt d => exact fun v G' H' g st rv => p v G' H' g st.sub rv
      | bk ρ => exact p.elim
      | ct ρ => exact p.elim
end
end DL

/-! the mirrors of Watch's methods, printed by gen.py -/
namespace DL
open PySem PySem.Spec PyProof.Rows L2
def b_W_counts (ds : List PD) : Env → Unit × Int → R (Fl × (Unit × Int)) :=
      (sSeq (sSetF 1 (fLst (aCons (cC (.int 0)) (aCons (cC (.int 0)) (aCons (cC (.int 0)) (aCons (cC (.int 0)) aNil))))))
      (sSeq (sFor (iLst (cLnW ds (cVar 0))) (bTup (bCons (bNm 2) (bCons (bNm 3) bNil)))
      (sIf (cTest (cOp pGe (cVar 2) (cThr (cVar 0))))
      (sAugIx 1 (cIf (cTest (cVar 3)) (cC (.int 1)) (cC (.int 0))) 1)
      (sAugIx 1 (cIf (cTest (cVar 3)) (cC (.int 2)) (cC (.int 3))) 1)))
      (sRet (cCall pTuple (aCons (cVar 1) aNil)))))
def m_W_counts : List PD → Wt → R (PD × Wt) := mBodyRd 3 b_W_counts
def b_W_move (ds : List PD) : Env → Unit × Int → R (Fl × (Unit × Int)) :=
      (sSeq (sAsg (bTup (bCons (bNm 2) (bCons (bNm 3) bNil))) (cTup (aCons (cCall pMin (aCons (cVar 1) (aCons (cThr (cVar 0)) aNil))) (aCons (cCall pMax (aCons (cVar 1) (aCons (cThr (cVar 0)) aNil))) aNil))))
      (sSeq (sThr (cVar 1) (cVar 0))
      (sRet (cCall pLen (aCons (cComp (iLst (cLnW ds (cVar 0))) (bTup (bCons (bNm 4) (bCons (bNm 5) bNil))) [4, 5] (cTest (cChain pLe pLt (cVar 2) (cVar 4) (cVar 3))) (cC (.int 1))) aNil)))))
def c_W_move : Env → Unit → R (Fl × Unit) :=
      (sExpr (cCallF 1 m_check_threshold (aCons (cVar 1) aNil)))
def m_W_move : List PD → Wt → R (PD × Wt) := mBodyRd1 4 c_W_move b_W_move
end DL

/-! NZ: what Watch's methods answer -/
namespace DL
open PySem PySem.Spec PyProof.Rows L2
local macro_rules | `(tactic| walk_at "ev") => `(tactic| simp only [szL, Nat.reduceLeDiff, mBody, mBodyD, outP, outD, cVar, cC, cOp, cUn, cTest, cAndT, cOrT, cNotT, cAndV, cOrV, cIf, aNil, aCons, cTup, cLst, cSl, oNone, oSome, cCall, cCallF, cCallD, cMeth, noX', isL_list, isL_encP, tYesD, bnd_ok, bnd_exc, bnd_bad, lft_ok, lft_exc, lft_bad, isOk_ok, isOk_exc, isOk_bad, isD_int, isD_bool, isD_none, isD_str, isD_list, isD_tuple, isD_eP, isD_eT, isD_encP, isD_encT, allD, List.all_cons, List.all_nil, Bool.and_self, Bool.and_true, Bool.true_and, if_true, if_false, Bool.false_eq_true, ite_true, ite_false, reduceIte, List.length_cons, List.length_nil, List.map_cons, List.map_nil, List.cons_append, List.nil_append, List.replicate_succ, List.replicate_zero, List.getElem?_cons_zero, List.getElem?_cons_succ, List.set_cons_zero, List.set_cons_succ, wipeD, sSeq, sSet, sAsg, sRet, sIf, sExpr, sNil, sRaise, sSetF, sApp, sAug, sAugL, sPar, sPar3, fLst, bNm, bTup, bCons, bNil, pNot, pIsi, isiT, tyN, pNeg, Nat.reduceAdd, decide_true, decide_false, Bool.not_true, Bool.not_false, noX_ok, pLe_i, pLt_i, pGt_i, pGe_i, pAdd_i, pSub_i, pLen_l, pLen_t, pIx_t0, pIx_t1, pEq_i, pNe_i])
local macro_rules | `(tactic| walk_at "evs") => `(tactic| simp [szL, mBody, mBodyD, outP, outD, cVar, cC, cOp, cUn, cTest, cAndT, cOrT, cNotT, cAndV, cOrV, cIf, aNil, aCons, cTup, cLst, cSl, oNone, oSome, cCall, cCallF, cCallD, cMeth, noX', isL_list, isL_encP, tYesD, bnd_ok, bnd_exc, bnd_bad, lft_ok, lft_exc, lft_bad, isOk_ok, isOk_exc, isOk_bad, isD_int, isD_bool, isD_none, isD_str, isD_list, isD_tuple, isD_eP, isD_eT, isD_encP, isD_encT, allD, List.all_cons, List.all_nil, List.map_cons, List.map_nil, List.cons_append, List.nil_append, List.replicate_succ, List.replicate_zero, List.getElem?_cons_zero, List.getElem?_cons_succ, List.set_cons_zero, List.set_cons_succ, wipeD, sSeq, sSet, sAsg, sRet, sIf, sExpr, sNil, sRaise, sSetF, sApp, sAug, sAugL, sPar, sPar3, fLst, bNm, bTup, bCons, bNil, pNot, pIsi, isiT, tyN, pNeg, noX_ok, pLe_i, pLt_i, pGt_i, pGe_i, pAdd_i, pSub_i, pLen_l, pLen_t, pIx_t0, pIx_t1, pEq_i, pNe_i])
local macro_rules | `(tactic| walk_at "evx") => `(tactic| simp [szL, mBody, mBodyD, outP, outD, cVar, cC, cOp, cUn, cTest, cAndT, cOrT, cNotT, cAndV, cOrV, cIf, aNil, aCons, cTup, cLst, cSl, oNone, oSome, cCall, cCallF, cCallD, cMeth, noX', isL_list, isL_encP, tYesD, bnd_ok, bnd_exc, bnd_bad, lft_ok, lft_exc, lft_bad, isOk_ok, isOk_exc, isOk_bad, isD_int, isD_bool, isD_none, isD_str, isD_list, isD_tuple, isD_eP, isD_eT, isD_encP, isD_encT, allD, List.all_cons, List.all_nil, List.map_cons, List.map_nil, List.cons_append, List.nil_append, List.replicate_succ, List.replicate_zero, List.getElem?_cons_zero, List.getElem?_cons_succ, List.set_cons_zero, List.set_cons_succ, wipeD, sSeq, sSet, sAsg, sRet, sIf, sExpr, sNil, sRaise, sSetF, sApp, sAug, sAugL, sPar, sPar3, fLst, bNm, bTup, bCons, bNil, pNot, pIsi, isiT, tyN, pNeg, noX_ok, pLe_i, pLt_i, pGt_i, pGe_i, pAdd_i, pSub_i, pLen_l, pLen_t, pIx_t0, pIx_t1, pEq_i, pNe_i, *])
def mi (T : List Th) (t : Int) : Int := ((T.filter fun x => !decide (t ≤ x.1) && x.2).length : Int)
def so (T : List Th) (t : Int) : Int := ((T.filter fun x => !decide (t ≤ x.1) && !x.2).length : Int)
theorem flt_app {a : Type} (p : a → Bool) (T : List a) (x : a) : (((T ++ [x]).filter p).length : Int) = ((T.filter p).length : Int) + (if p x = true then 1 else 0) := by
  rw [List.filter_append, List.length_append]
  by_cases h : p x = true
  · rw [if_pos h, List.filter_cons_of_pos h]; simp
  · rw [if_neg h, List.filter_cons_of_neg h]; simp
abbrev bW : Env → Unit × Int → R (Fl × (Unit × Int)) := (sIf (cTest (cOp pGe (cVar 2) (cThr (cVar 0))))
      (sAugIx 1 (cIf (cTest (cVar 3)) (cC (.int 1)) (cC (.int 0))) 1)
      (sAugIx 1 (cIf (cTest (cVar 3)) (cC (.int 2)) (cC (.int 3))) 1))
def cl4 (T : List Th) (t : Int) : List PD := [.int (fa T t), .int (tr T t), .int (mi T t), .int (so T t)]
theorem b_W_counts_eq (T : List Th) (t : Int) : b_W_counts (T.map eT) [some (tokD 1), none, none, none] ((), t) = .ok (.rt (.tuple (cl4 T t)), ((), t)) := by
  unfold b_W_counts
  obtain ⟨ρ', s', e, i⟩ := sForGo_inv (d := Unit × Int) (bd := bTup (bCons (bNm 2) (bCons (bNm 3) bNil))) (body := bW) eT
    (fun p ρ s => s = ((), t) ∧ ∃ a b, ρ = [some (tokD 1), some (.list (cl4 p t)), a, b]) T [] [some (tokD 1), some (.list [.int 0, .int 0, .int 0, .int 0]), none, none] ((), t) ⟨rfl, none, none, rfl⟩ fun p x q ρ s _ hi => by
      obtain ⟨rfl, a, b, rfl⟩ := hi
      obtain ⟨sc, mk⟩ := x
      by_cases h : t ≤ sc
      · cases mk
        · refine ⟨_, [some (tokD 1), some (.list (cl4 (p ++ [(sc, false)]) t)), some (.int sc), some (.bool false)], _, rfl, ev_if_t (s' := ((), t)) (ev_test (ev_op rfl rfl (by rw [pGe_i, decide_eq_true h]))) ?_, rfl, _, _, rfl⟩
          show R.ok (Fl.nx [some (tokD 1), some (.list [.int (fa p t + 1), .int (tr p t), .int (mi p t), .int (so p t)]), some (.int sc), some (.bool false)], ((), t)) = _
          unfold cl4 fa tr mi so
          simp only [flt_app, decide_eq_true h]
          simp
        · refine ⟨_, [some (tokD 1), some (.list (cl4 (p ++ [(sc, true)]) t)), some (.int sc), some (.bool true)], _, rfl, ev_if_t (s' := ((), t)) (ev_test (ev_op rfl rfl (by rw [pGe_i, decide_eq_true h]))) ?_, rfl, _, _, rfl⟩
          show R.ok (Fl.nx [some (tokD 1), some (.list [.int (fa p t), .int (tr p t + 1), .int (mi p t), .int (so p t)]), some (.int sc), some (.bool true)], ((), t)) = _
          unfold cl4 fa tr mi so
          simp only [flt_app, decide_eq_true h]
          simp
      · cases mk
        · refine ⟨_, [some (tokD 1), some (.list (cl4 (p ++ [(sc, false)]) t)), some (.int sc), some (.bool false)], _, rfl, ev_if_f (s' := ((), t)) (ev_test (ev_op rfl rfl (by rw [pGe_i, decide_eq_false h]))) ?_, rfl, _, _, rfl⟩
          show R.ok (Fl.nx [some (tokD 1), some (.list [.int (fa p t), .int (tr p t), .int (mi p t), .int (so p t + 1)]), some (.int sc), some (.bool false)], ((), t)) = _
          unfold cl4 fa tr mi so
          simp only [flt_app, decide_eq_false h]
          simp
        · refine ⟨_, [some (tokD 1), some (.list (cl4 (p ++ [(sc, true)]) t)), some (.int sc), some (.bool true)], _, rfl, ev_if_f (s' := ((), t)) (ev_test (ev_op rfl rfl (by rw [pGe_i, decide_eq_false h]))) ?_, rfl, _, _, rfl⟩
          show R.ok (Fl.nx [some (tokD 1), some (.list [.int (fa p t), .int (tr p t), .int (mi p t + 1), .int (so p t)]), some (.int sc), some (.bool true)], ((), t)) = _
          unfold cl4 fa tr mi so
          simp only [flt_app, decide_eq_false h]
          simp
  obtain ⟨rfl, a, b, rfl⟩ := i
  rw [List.nil_append] at e
  exact ev_seq (s' := ((), t)) rfl (ev_seq (ev_for (s' := ((), t)) rfl e) rfl)
theorem mBodyRd_of {n : Nat} {fb : List PD → Env → Unit × Int → R (Fl × (Unit × Int))} {ds : List PD} {s : Wt} {d : PD} {t' : Int} (h : fb s.2 (ds.map some ++ List.replicate n none) ((), s.1) = .ok (.rt d, ((), t'))) (hd : noL d = true) : mBodyRd n fb ds s = .ok (d, (t', s.2)) := by
  unfold mBodyRd
  rw [h]
  dsimp only
  rw [if_pos hd]
theorem mBodyRd1_of {n : Nat} {f0 : Env → Unit → R (Fl × Unit)} {fb : List PD → Env → Unit × Int → R (Fl × (Unit × Int))} {ds : List PD} {s : Wt} {d : PD} {t' : Int} {ρ : Env} (h0 : f0 (ds.map some ++ List.replicate n none) () = .ok (.nx ρ, ())) (h : fb s.2 ρ ((), s.1) = .ok (.rt d, ((), t'))) (hd : noL d = true) : mBodyRd1 n f0 fb ds s = .ok (d, (t', s.2)) := by
  unfold mBodyRd1
  rw [h0]
  dsimp only
  rw [h]
  dsimp only
  rw [if_pos hd]
theorem m_W_counts_eq (T : List Th) (t : Int) : m_W_counts [tokD 1] (t, T.map eT) = .ok (.tuple (cl4 T t), (t, T.map eT)) := by
  exact mBodyRd_of (n := 3) (fb := b_W_counts) (ds := [tokD 1]) (s := (t, T.map eT)) (b_W_counts_eq T t) rfl
theorem chain_lelt {d : Type} (a b c : Env → d → R (PD × d)) (ρ : Env) (s : d) (x y z : Int) (ha : a ρ s = .ok (.int x, s)) (hb : b ρ s = .ok (.int y, s)) (hc : c ρ s = .ok (.int z, s)) : cChain pLe pLt a b c ρ s = .ok (.bool (decide (x ≤ y) && decide (y < z)), s) := by
  unfold cChain
  rw [ha, bnd_ok, hb, bnd_ok, if_pos (show (isD (.int x) && isD (.int y)) = true from rfl), pLe_i]
  by_cases h : x ≤ y
  · rw [decide_eq_true h]
    show bnd (c ρ s) _ = _
    rw [hc, bnd_ok, if_pos (show isD (.int z) = true from rfl), pLt_i]
    rfl
  · rw [decide_eq_false h]
    rfl
def chg (T : List Th) (lo hi : Int) : Int := ((T.filter fun x => decide (lo ≤ x.1) && decide (x.1 < hi)).length : Int)
theorem m_W_move_eq {T : List Th} (hT : T.length ≤ 1000) (t : Int) {u : Int} (h : 0 ≤ u ∧ u ≤ 100) : m_W_move [tokD 1, .int u] (t, T.map eT) = .ok (.int (chg T (if t < u then t else u) (if t > u then t else u)), (u, T.map eT)) := by
  have h0 : c_W_move [some (tokD 1), some (.int u), none, none, none, none] () = .ok (.nx [some (tokD 1), some (.int u), none, none, none, none], ()) := ev_exp (ev_callF rfl (m_check_threshold_eq h))
  have h1 : b_W_move (T.map eT) [some (tokD 1), some (.int u), none, none, none, none] ((), t) = .ok (.rt (.int (chg T (if t < u then t else u) (if t > u then t else u))), ((), u)) := by
    unfold b_W_move
    generalize elo : (if t < u then t else u) = lo
    generalize ehi : (if t > u then t else u) = hi
    refine ev_unp (ρ' := [some (tokD 1), some (.int u), some (.int lo), some (.int hi), none, none]) (s1 := ((), t)) (v := .tuple [.int lo, .int hi]) (ev_tup (ev_aC (ev_call rfl (by show R.ok (PyData.int (if t < u then t else u)) = _; rw [elo])) (ev_a1 (ev_call rfl (by show R.ok (PyData.int (if t > u then t else u)) = _; rw [ehi]))))) rfl ?_
    refine ev_seq (s' := ((), u)) (ρ' := [some (tokD 1), some (.int u), some (.int lo), some (.int hi), none, none]) rfl (ret_of ?_ rfl)
    have hc : cComp (iLst (cLnW (T.map eT) (cVar 0))) (bTup (bCons (bNm 4) (bCons (bNm 5) bNil))) [4, 5] (cTest (cChain pLe pLt (cVar 2) (cVar 4) (cVar 3))) (cC (.int 1)) [some (tokD 1), some (.int u), some (.int lo), some (.int hi), none, none] ((), u) = .ok (.list ((T.filter fun x => decide (lo ≤ x.1) && decide (x.1 < hi)).map fun _ => .int 1), ((), u)) := by
      refine cComp_pure T eT _ _ rfl (by omega) fun x hx => ⟨_, rfl, ev_test (chain_lelt _ _ _ _ _ lo x.1 hi rfl rfl rfl), fun _ => ⟨rfl, rfl⟩⟩
    refine ev_call (ev_a1 hc) ?_
    show R.ok (PyData.int (List.length _ : Nat)) = _
    rw [List.length_map]
    rfl
  exact mBodyRd1_of (n := 4) (f0 := c_W_move) (fb := b_W_move) (ds := [tokD 1, .int u]) (s := (t, T.map eT)) h0 h1 rfl
theorem m_W_move_no (s : Wt) : m_W_move [tokD 1, .int 101] s = .exc 1 := rfl
theorem m_push_eq {T : List Th} (hT : T.length ≤ 1000) (t : Int) {x : Th} (h : 0 ≤ x.1 ∧ x.1 ≤ 99) : m_push [tokD 1, eT x] (t, T.map eT) = .ok (.bool (decide (t ≤ x.1)), (t, (T ++ [x]).map eT)) := by
  show (match m_is_thing [eT x] with | .ok (.bool true) => _ | .ok (.bool false) => _ | _ => _) = _
  rw [m_is_thing_eT x h]
  show (if (T.map eT).length < 100000 then _ else _) = _
  rw [if_pos (by rw [List.length_map]; omega), List.map_append]
  rfl
theorem m_push_no (s : Wt) : m_push [tokD 1, .tuple [.int 100, .bool true]] s = .exc 0 := rfl
theorem m_undo_nil (t : Int) : m_undo [tokD 1] (t, []) = .exc 4 := rfl
theorem m_undo_eq (T : List Th) (x : Th) (t : Int) : m_undo [tokD 1] (t, (T ++ [x]).map eT) = .ok (eT x, (t, T.map eT)) := by
  show (if SeqAt.shaped (.list ((T ++ [x]).map eT)) = true then (match ((T ++ [x]).map eT)[((T ++ [x]).map eT).length - 1]? with | some d => R.ok (d, ((t, ((T ++ [x]).map eT).dropLast) : Wt)) | none => .exc 4) else .bad) = _
  rw [if_pos (show SeqAt.shaped (.list ((T ++ [x]).map eT)) = true from shaped_encT _)]
  have e1 : ((T ++ [x]).map eT)[((T ++ [x]).map eT).length - 1]? = some (eT x) := by
    rw [List.map_append, List.length_append, List.getElem?_append_right (by simp)]
    simp
  rw [e1]
  show R.ok (eT x, ((t, ((T ++ [x]).map eT).dropLast) : Wt)) = _
  rw [List.map_append, show List.map eT [x] = [eT x] from rfl, List.dropLast_concat]
theorem isT1 : isT 1 (tokD 1) = true := rfl
/-! ### evaluation beside an object -/
theorem ev_tryX_ok {d : Type} {fb : Env → d → RX (Fl × d) d} {j : Nat} {fe : Env → d → R (PD × d)} {nm : Nat → Str} {ρ ρ' : Env} {s s' s2 : d} {v : PD} (h : fb ρ s = .ok (.nx ρ', s')) (hj : ρ'[j]? = some (some .none)) (he : fe ρ' s' = .ok (v, s2)) : sTryX fb j fe nm ρ s = .ok (.rt v, s2) := by
  unfold sTryX
  rw [h]
  dsimp only
  rw [hj]
  dsimp only
  rw [he]
  rfl
theorem ev_tryX_exc {d : Type} {fb : Env → d → RX (Fl × d) d} {j : Nat} {fe : Env → d → R (PD × d)} {nm : Nat → Str} {ρ : Env} {s s' : d} {c : Nat} (h : fb ρ s = .exc c s') (hc : c < 5) : sTryX fb j fe nm ρ s = .ok (.rt (.str (nm c)), s') := by
  unfold sTryX
  rw [h]
  dsimp only
  rw [if_pos hc]
theorem ev_xif_t {d : Type} {t : Env → d → R (Bool × d)} {f g : Env → d → RX (Fl × d) d} {ρ : Env} {s s1 : d} {r : RX (Fl × d) d} (h : t ρ s = .ok (true, s1)) (k : f ρ s1 = r) : xIf t f g ρ s = r := by
  unfold xIf
  rw [h]
  exact k
theorem ev_xif_f {d : Type} {t : Env → d → R (Bool × d)} {f g : Env → d → RX (Fl × d) d} {ρ : Env} {s s1 : d} {r : RX (Fl × d) d} (h : t ρ s = .ok (false, s1)) (k : g ρ s1 = r) : xIf t f g ρ s = r := by
  unfold xIf
  rw [h]
  exact k
theorem ev_xM {t1 t2 : Type} {i n : Nat} {m : List PD → t2 → R (PD × t2)} {o : Env → t1 × t2 → R (PD × (t1 × t2))} {a : Env → t1 × t2 → R (List PD × (t1 × t2))} {ρ : Env} {s s1 : t1 × t2} {ds : List PD} {v : PD} {t' : t2} (ho : o ρ s = .ok (tokD 1, s)) (ha : a ρ s = .ok (ds, s1)) (hn : ds.length + 1 = n) (hd : allD ds = true) (hm : m (tokD 1 :: ds) s1.2 = .ok (v, t')) (hv : isD v = true) :
    xSetM i n m o a ρ s = .ok (.nx (ρ.set i (some v)), (s1.1, t')) := by
  unfold xSetM
  rw [ho]
  dsimp only
  rw [if_pos isT1, ha]
  dsimp only
  rw [if_pos ⟨hn, hd⟩, hm]
  unfold outX
  dsimp only
  rw [if_pos hv]
theorem ev_xM_exc {t1 t2 : Type} {i n : Nat} {m : List PD → t2 → R (PD × t2)} {o : Env → t1 × t2 → R (PD × (t1 × t2))} {a : Env → t1 × t2 → R (List PD × (t1 × t2))} {ρ : Env} {s s1 : t1 × t2} {ds : List PD} {c : Nat} (ho : o ρ s = .ok (tokD 1, s)) (ha : a ρ s = .ok (ds, s1)) (hn : ds.length + 1 = n) (hd : allD ds = true) (hm : m (tokD 1 :: ds) s1.2 = .exc c) :
    xSetM i n m o a ρ s = .exc c s1 := by
  unfold xSetM
  rw [ho]
  dsimp only
  rw [if_pos isT1, ha]
  dsimp only
  rw [if_pos ⟨hn, hd⟩, hm]
  rfl
theorem ev_xM0 {t1 t2 : Type} {i : Nat} {m : List PD → t2 → R (PD × t2)} {o : Env → t1 × t2 → R (PD × (t1 × t2))} {ρ : Env} {s : t1 × t2} {v : PD} {t' : t2} (ho : o ρ s = .ok (tokD 1, s)) (hm : m [tokD 1] s.2 = .ok (v, t')) (hv : isD v = true) : xSetM0 i m o ρ s = .ok (.nx (ρ.set i (some v)), (s.1, t')) := by
  unfold xSetM0
  rw [ho]
  dsimp only
  rw [if_pos isT1, hm]
  unfold outX
  dsimp only
  rw [if_pos hv]
theorem ev_xM0_exc {t1 t2 : Type} {i : Nat} {m : List PD → t2 → R (PD × t2)} {o : Env → t1 × t2 → R (PD × (t1 × t2))} {ρ : Env} {s : t1 × t2} {c : Nat} (ho : o ρ s = .ok (tokD 1, s)) (hm : m [tokD 1] s.2 = .exc c) : xSetM0 i m o ρ s = .exc c s := by
  unfold xSetM0
  rw [ho]
  dsimp only
  rw [if_pos isT1, hm]
  rfl
theorem mBodyO_of {t : Type} {n : Nat} {fb : Env → Unit × t → R (Fl × (Unit × t))} {ds : List PD} {s s' : t} {d : PD} (h : fb (ds.map some ++ List.replicate n none) ((), s) = .ok (.rt d, ((), s'))) (hd : isD d = true) : mBodyO n fb ds s = .ok (d, s') := by
  unfold mBodyO
  rw [h]
  dsimp only
  rw [if_pos hd]
theorem ev_oW {t1 t2 : Type} {n : Nat} {m : List PD → t2 → R (PD × t2)} {a : Env → t1 × t2 → R (List PD × (t1 × t2))} {ρ : Env} {s s1 : t1 × t2} {ds : List PD} {v : PD} {t' : t2} (ha : a ρ s = .ok (ds, s1)) (hm : m ds s1.2 = .ok (v, t')) (hv : isD v = true := by rfl) (hn : ds.length = n := by rfl) (hk : ds.all (okT 1) = true := by rfl) : cCallW n m a ρ s = .ok (v, (s1.1, t')) := by
  unfold cCallW
  rw [ha, bnd_ok, if_pos ⟨hn, hk⟩, hm]
  unfold outR
  dsimp only
  rw [if_pos hv]
theorem ev_D2 {t2 : Type} {n : Nat} {m : List PD → Dr → R (PD × Dr)} {a : Env → Dr × t2 → R (List PD × (Dr × t2))} {ρ : Env} {s s1 : Dr × t2} {ds : List PD} {v : PD} {s' : Dr} (ha : a ρ s = .ok (ds, s1)) (hm : m ds s1.1 = .ok (v, s')) (hv : isD v = true := by rfl) (hn : ds.length = n := by rfl) (hk : ds.all (okT 0) = true := by rfl) : cCallD2 n m a ρ s = .ok (v, (s', s1.2)) := by
  unfold cCallD2
  rw [ha, bnd_ok, if_pos ⟨hn, hk⟩, hm]
  dsimp only
  rw [if_pos hv]
theorem ev_M0 {t1 t2 : Type} {m : List PD → t2 → R (PD × t2)} {o : Env → t1 × t2 → R (PD × (t1 × t2))} {ρ : Env} {s : t1 × t2} {v : PD} {t' : t2} (ho : o ρ s = .ok (tokD 1, s)) (hm : m [tokD 1] s.2 = .ok (v, t')) (hv : isD v = true := by rfl) : cMethW0 m o ρ s = .ok (v, (s.1, t')) := by
  unfold cMethW0
  rw [ho, bnd_ok, if_pos isT1, hm]
  unfold outR
  dsimp only
  rw [if_pos hv]
theorem ev_newW2 {t1 : Type} {i j : Nat} {fe : Env → t1 → R (PD × t1)} {fr : Env → t1 × Wt → R (Fl × (t1 × Wt))} {ρ : Env} {s s1 : t1} {t : Int} {d w : PD} {s2 : t1 × Wt} (he : fe ρ s = .ok (.int t, s1)) (ht : m_check_threshold [.int t] = .ok w) (k : fr ((ρ.set i (some (tokD 1))).set j (some (.list []))) (s1, (t, [])) = .ok (.rt d, s2)) (hd : isD d = true := by rfl) (nt : noT ρ = true := by rfl) : sNewW2 i j fe fr ρ s = .ok (.rt d, s2.1) := by
  unfold sNewW2
  rw [he, bnd_ok, if_pos nt]
  unfold newW
  rw [ht]
  dsimp only
  rw [k]
  unfold outNew
  dsimp only
  rw [if_pos hd]
end DL

/-! DLV: dicts whose keys are tuples of ints -/
namespace DL
open PySem PySem.Spec PyProof.Rows L2
abbrev Kt := List (List Int × PD)
def kK (k : List Int) : List Key := k.map Sum.inl
theorem kK_inj {k l : List Int} (h : kK k = kK l) : k = l := by
  induction k generalizing l with
  | nil =>
    cases l with
    | nil => rfl
    | cons b l => cases h
  | cons a k ih =>
    cases l with
    | nil => cases h
    | cons b l =>
      unfold kK at h
      rw [List.map_cons, List.map_cons] at h
      injection h with h1 h2
      injection h1 with h1
      rw [h1, ih h2]
theorem kK_V (k : List Int) : (kK k).map kV = k.map V.int := by
  unfold kK
  rw [List.map_map]
  rfl
inductive DgKV (G : Hp) : List (List Key × V) → Kt → Prop
  | nil : DgKV G [] []
  | cons {k : List Int} {v : V} {d : PD} {kvs : List (List Key × V)} {s : Kt} : Dg G v d → DgKV G kvs s → DgKV G ((kK k, v) :: kvs) ((k, d) :: s)
theorem DgKV.mono {G G' : Hp} (h : Sub G G') : ∀ {kvs : List (List Key × V)} {s : Kt}, DgKV G kvs s → DgKV G' kvs s
  | _, _, .nil => .nil
  | _, _, .cons a b => .cons (a.mono h) (b.mono h)
theorem DgKV.len {G : Hp} : ∀ {kvs : List (List Key × V)} {s : Kt}, DgKV G kvs s → kvs.length = s.length
  | _, _, .nil => rfl
  | _, _, .cons _ b => by simp [b.len]
def getK (s : Kt) (k : List Int) : Option PD := (s.find? fun kv => decide (kv.1 = k)).map (·.2)
def putD (s : Kt) (k : List Int) (v : PD) : Kt := if (s.any fun kv => decide (kv.1 = k)) = true then s.map (fun kv => if kv.1 = k then (kv.1, v) else kv) else s ++ [(k, v)]
theorem DgKV.get {G : Hp} {k : List Int} : ∀ {kvs : List (List Key × V)} {s : Kt}, DgKV G kvs s → match getK s k with
    | some d => ∃ v, valV kvs (kK k) = some v ∧ Dg G v d
    | none => valV kvs (kK k) = none
  | _, _, .nil => rfl
  | _, _, .cons (k := k') (v := v) (d := d) (kvs := kvs) (s := s) a b => by
    by_cases h : k' = k
    · subst h
      have e1 : getK ((k', d) :: s) k' = some d := by unfold getK; simp
      rw [e1]
      exact ⟨v, valV_pos rfl, a⟩
    · have e1 : getK ((k', d) :: s) k = getK s k := by unfold getK; simp [h]
      rw [e1]
      have e2 : valV ((kK k', v) :: kvs) (kK k) = valV kvs (kK k) := valV_neg fun z => h (kK_inj z)
      rw [e2]
      exact DgKV.get b
theorem DgKV.any {G : Hp} {k : List Int} : ∀ {kvs : List (List Key × V)} {s : Kt}, DgKV G kvs s → (kvs.any fun kv => decide (kv.1 = kK k)) = (s.any fun kv => decide (kv.1 = k))
  | _, _, .nil => rfl
  | _, _, .cons (k := k') a b => by
    rw [List.any_cons, List.any_cons, DgKV.any b]
    congr 1
    by_cases h : k' = k
    · rw [decide_eq_true h, h]; simp
    · rw [decide_eq_false h, decide_eq_false fun z => h (kK_inj z)]
theorem DgKV.app {G : Hp} {k : List Int} {v : V} {d : PD} (r : Dg G v d) : ∀ {kvs : List (List Key × V)} {s : Kt}, DgKV G kvs s → DgKV G (kvs ++ [(kK k, v)]) (s ++ [(k, d)])
  | _, _, .nil => .cons r .nil
  | _, _, .cons a b => .cons a (DgKV.app r b)
theorem DgKV.map {G : Hp} {k : List Int} {v : V} {d : PD} (r : Dg G v d) : ∀ {kvs : List (List Key × V)} {s : Kt}, DgKV G kvs s → DgKV G (kvs.map fun kv => if kv.1 = kK k then (kv.1, v) else kv) (s.map fun kv => if kv.1 = k then (kv.1, d) else kv)
  | _, _, .nil => .nil
  | _, _, .cons (k := k') a b => by
    rw [List.map_cons, List.map_cons]
    by_cases h : k' = k
    · rw [if_pos (by rw [h]), if_pos h]
      exact .cons r (DgKV.map r b)
    · rw [if_neg fun z => h (kK_inj z), if_neg h]
      exact .cons a (DgKV.map r b)
theorem DgKV.put {G : Hp} {k : List Int} {v : V} {d : PD} {kvs : List (List Key × V)} {s : Kt} (h : DgKV G kvs s) (r : Dg G v d) : DgKV G (putK kvs (kK k) v) (putD s k d) := by
  unfold putK putD
  rw [h.any]
  split
  · exact h.map r
  · exact h.app r
/-- the world of a dict -/
def Wk (cls : Nat → Addr) (p : Addr) : Wd where
  d := Kt
  fp := fun a => a = p
  rep := fun s G H => ∃ kvs, H p = some (.dT kvs) ∧ DgKV G kvs s
  tk := fun _ => .ref p
  cls := cls
  keep := fun ⟨kvs, a, b⟩ g k => ⟨kvs, k _ _ rfl a, b.mono g⟩
def toKey : PD → Option (List Int)
  | .tuple xs => toInts xs
  | _ => none
theorem Dg.key {G : Hp} {v : V} {d : PD} {k : List Int} (h : Dg G v d) (e : toKey d = some k) : ∃ b, v = .ref b ∧ G b = some (.tup ((kK k).map kV)) := by
  cases d with
  | tuple xs =>
    obtain ⟨b, vs, rfl, gb, db⟩ := h.of_tup
    rw [toInts_eq e] at db
    have := db.ints
    subst this
    exact ⟨b, rfl, by rw [kK_V]; exact gb⟩
  | _ => cases e
/-! ### x = {} -/
def sNewD {t1 : Type} (i : Nat) (fr : Env → t1 × Kt → R (Fl × (t1 × Kt))) : Env → t1 → R (Fl × t1) := fun ρ s => if noT ρ = true then outNew (fr (ρ.set i (some (tokD 1))) (s, [])) else .bad
section
variable {X : Cx} {O O' : List Nat} {W : Wd} {G0 H0 : Hp} {E : XK}
theorem dss_nD (i : Nat) {x : Str} {rest : List Stmt} {fr : Env → W.d × Kt → R (Fl × (W.d × Kt))} {dpos pos pos' : Pos} (hN : X.N.Nodup) (hrest : ∀ p, DSs X ⟨W.and (Wk W.cls p), G0, H0, E⟩ O O' rest fr)
    (hi : X.N[i]? = some x := by rfl) (hx : Loc X.env.scope x := by first | exact Or.inl rfl | exact Or.inr rfl) (hO : i ∉ O := by decide)
    (hs : swapsWith (.Dict [] [] dpos) (some (.Name x pos')) pos.line X.env = pure false := by rfl) (hf : X.fn x = true ∨ X.env.scope.names.lookup x = some .local := by first | exact .inl rfl | exact .inr rfl) :
    DSs X ⟨W, G0, H0, E⟩ O O' (.Assign [.Name x pos'] (.Dict [] [] dpos) pos :: rest) (sNewD i fr) := by
  have hb' : PSs X rest (fun D σ H' => ∃ p, rdS ⟨W.and (Wk W.cls p), G0, H0, E⟩ O O' fr D σ H') := ⟨fun pins s' σ H' D I h => by
    obtain ⟨j, h⟩ := h
    exact (hrest j).run pins s' σ H' D I h⟩
  refine PSs.imp (pss_cons (ps_set hN hi hx pe_dnewT hs hf) hb') fun D σ H h => ?_
  obtain ⟨G, ρ, s, a, q⟩ := h
  intro p hp
  unfold sNewD at q
  by_cases nt : noT ρ = true
  · rw [if_pos nt] at q
    have a2 : At ⟨W.and (Wk W.cls p), G0, H0, E⟩ O σ (upd H p (.dT [])) G ρ (s, []) := At.enter (W2 := Wk W.cls p) (t := []) a (fun x z => by rw [show x = p from z]; exact hp) (fun x z => by rw [show x = p from z, upd_same]; exact fun q => by cases q) (fun x o e => by rw [upd_ne (ne_of_none e hp)]; exact e) (fun x e => by
      by_cases z : x = p
      · rw [z]; exact hp
      · rw [upd_ne z] at e; exact e) ⟨[], upd_same, .nil⟩ nt
    exact ⟨p, G, ρ.set i (some (tokD 1)), (s, []), ⟨a2.sit, a2.gr, a2.rs.set (.inr ⟨1, rfl, rfl⟩) hO⟩, PostS.leave (W2 := Wk W.cls p) (E := E) (fun x z => by rw [show x = p from z]; exact a.gr.dom p hp) q⟩
  · rw [if_neg nt] at q; exact q.elim
end
/-! ### d[k] = e, d[k], k not in d -/
def sDput {t1 : Type} (fe fd fk : Env → t1 × Kt → R (PD × (t1 × Kt))) : Env → t1 × Kt → R (Fl × (t1 × Kt)) := fun ρ s => bnd (fe ρ s) fun v s1 => bnd (fd ρ s1) fun x s2 => bnd (fk ρ s2) fun k s3 =>
  if isT 1 x = true ∧ isD v = true ∧ isD k = true then (match toKey k with
    | some l => if s3.2.length < 100000 then .ok (.nx ρ, (s3.1, putD s3.2 l v)) else .bad
    | none => .bad) else .bad
def cDget {t1 : Type} (fd fk : Env → t1 × Kt → R (PD × (t1 × Kt))) : Env → t1 × Kt → R (PD × (t1 × Kt)) := fun ρ s => bnd (fd ρ s) fun x s1 => bnd (fk ρ s1) fun k s2 =>
  if isT 1 x = true ∧ isD k = true then (match toKey k with
    | some l => (match getK s2.2 l with
      | some d => .ok (d, s2)
      | none => .bad)
    | none => .bad) else .bad
def cDnotin {t1 : Type} (fk fd : Env → t1 × Kt → R (PD × (t1 × Kt))) : Env → t1 × Kt → R (Bool × (t1 × Kt)) := fun ρ s => bnd (fk ρ s) fun k s1 => bnd (fd ρ s1) fun x s2 =>
  if isT 1 x = true ∧ isD k = true then (match toKey k with
    | some l => .ok (!(getK s2.2 l).isSome, s2)
    | none => .bad) else .bad
section
variable {X : Cx} {O O' : List Nat} {W1 : Wd} {cls : Nat → Addr} {p : Addr} {G0 H0 : Hp} {E : XK}
theorem ds_dput {o k e : Expr} {fe fd fk : Mx ⟨W1.and (Wk cls p), G0, H0, E⟩ PD} {pos pos' : Pos} (hu : X.A.units + 1 < cLine) (ho : DE X ⟨W1.and (Wk cls p), G0, H0, E⟩ O o fd) (hk : DE X ⟨W1.and (Wk cls p), G0, H0, E⟩ O k fk) (he : DE X ⟨W1.and (Wk cls p), G0, H0, E⟩ O e fe) (hs : swapsWith e (some (.Subscript o k pos')) pos.line X.env = pure false := by rfl) :
    DS X ⟨W1.and (Wk cls p), G0, H0, E⟩ O O (.Assign [.Subscript o k pos'] e pos) (sDput (t1 := W1.d) fe fd fk) :=
  PS.imp (ps_dput hu ho hk he hs) fun D σ H h => by
    obtain ⟨G, ρ, s, a, q⟩ := h
    refine rdE.thenS a q fun v G1 H1 dv s1 a1 g1 rv p1 => ?_
    refine rdE.thenS a1 p1 fun x G2 H2 dx s2 a2 g2 rx p2 => ?_
    refine rdE.thenS a2 p2 fun y G3 H3 dk s3 a3 g3 rk p3 => ?_
    by_cases hd : isT 1 dx = true ∧ isD dv = true ∧ isD dk = true
    · rw [if_pos hd] at p3
      cases ek : toKey dk with
      | none => rw [ek] at p3; exact p3.elim
      | some l =>
        rw [ek] at p3
        dsimp only at p3
        by_cases hl : (s3.2 : Kt).length < 100000
        · rw [if_pos hl] at p3
          obtain ⟨b, rfl, gb⟩ := (rk.dg (isD_tok hd.2.2)).key ek
          obtain ⟨rp1, ⟨kvs, hp, dg⟩, dj⟩ := a3.sit.rep
          have dv' := ((rv.mono g2.g).mono g3.g).dg (isD_tok hd.2.1)
          refine ⟨p, _, rx.isT1 hd.1, DPut.t hp (a3.sit.sub _ _ gb) (by rw [dg.len]; exact Nat.lt_of_lt_of_le hl (by decide)), ?_⟩
          have nf1 : ∀ a, W1.fp a → a ≠ p := fun a f z => dj a f z
          have S := Sit.upd (W := W1.and (Wk cls p)) (s' := (s3.1, putD s3.2 l dv)) (p := p) (o := .dT (putK kvs (kK l) v)) a3.sit (.inr rfl) ⟨W1.keep rp1 (fun _ _ e => e) fun a o f e => by rw [upd_ne (nf1 a f)]; exact e, ⟨_, upd_same, dg.put dv'⟩, dj⟩
          exact p3 σ G3 _ (a3.step S.2 S.1)
        · rw [if_neg hl] at p3; exact p3.elim
    · rw [if_neg hd] at p3; exact p3.elim
theorem de_dget {o k : Expr} {fd fk : Mx ⟨W1.and (Wk cls p), G0, H0, E⟩ PD} {pos : Pos} (hu : X.A.units + 1 < cLine) (ho : DE X ⟨W1.and (Wk cls p), G0, H0, E⟩ O o fd) (hk : DE X ⟨W1.and (Wk cls p), G0, H0, E⟩ O k fk) (hs : NoSl k := by intro _ _; rfl) :
    DE X ⟨W1.and (Wk cls p), G0, H0, E⟩ O (.Subscript o k pos) (cDget (t1 := W1.d) fd fk) :=
  PE.imp (pe_dget hu ho hk hs) fun σ H Q h => by
    obtain ⟨G, ρ, s, a, q⟩ := h
    refine rdE.then a q fun x G1 H1 dx s1 a1 g1 rx p1 => ?_
    refine rdE.then a1 p1 fun y G2 H2 dk s2 a2 g2 rk p2 => ?_
    by_cases hd : isT 1 dx = true ∧ isD dk = true
    · rw [if_pos hd] at p2
      cases ek : toKey dk with
      | none => rw [ek] at p2; exact p2.elim
      | some l =>
        rw [ek] at p2
        dsimp only at p2
        obtain ⟨b, rfl, gb⟩ := (rk.dg (isD_tok hd.2)).key ek
        obtain ⟨rp1, ⟨kvs, hp, dg⟩, dj⟩ := a2.sit.rep
        have hg := dg.get (k := l)
        cases eg : getK s2.2 l with
        | none => rw [eg] at p2; exact p2.elim
        | some d =>
          rw [eg] at p2 hg
          obtain ⟨v, ev, rv⟩ := hg
          have gt := DGet.t (k := kK l) hp (a2.sit.sub _ _ gb)
          rw [ev] at gt
          exact ⟨p, v, rx.isT1 hd.1, gt, p2.done a2.sit (.inl rv)⟩
    · rw [if_neg hd] at p2; exact p2.elim
theorem dt_dnotin {o k : Expr} {fd fk : Mx ⟨W1.and (Wk cls p), G0, H0, E⟩ PD} {pos : Pos} (hu : X.A.units + 1 < cLine) (hk : DE X ⟨W1.and (Wk cls p), G0, H0, E⟩ O k fk) (ho : DE X ⟨W1.and (Wk cls p), G0, H0, E⟩ O o fd) (hm : behindInMarks .NotIn o = false := by rfl) :
    DT X ⟨W1.and (Wk cls p), G0, H0, E⟩ O (.Compare k [.NotIn] [o] pos) (cDnotin (t1 := W1.d) fk fd) :=
  PT.imp (pt_cmp (pc_dnotin hu hk ho) hm) fun σ H Q h => by
    obtain ⟨G, ρ, s, a, q⟩ := h
    refine rdE.thenT a q fun y G1 H1 dk s1 a1 g1 rk p1 => ?_
    refine rdE.thenT a1 p1 fun x G2 H2 dx s2 a2 g2 rx p2 => ?_
    by_cases hd : isT 1 dx = true ∧ isD dk = true
    · rw [if_pos hd] at p2
      cases ek : toKey dk with
      | none => rw [ek] at p2; exact p2.elim
      | some l =>
        rw [ek] at p2
        dsimp only at p2
        obtain ⟨b, rfl, gb⟩ := ((rk.mono g2.g).dg (isD_tok hd.2)).key ek
        obtain ⟨rp1, ⟨kvs, hp, dg⟩, dj⟩ := a2.sit.rep
        have hg := dg.get (k := l)
        refine ⟨p, valV kvs (kK l), rx.isT1 hd.1, DGet.t hp (a2.sit.sub _ _ gb), _, rfl, ?_⟩
        cases eg : getK s2.2 l with
        | none =>
          rw [eg] at p2 hg
          rw [hg]
          exact p2.done a2.sit
        | some d =>
          rw [eg] at p2 hg
          obtain ⟨v, ev, rv⟩ := hg
          rw [ev]
          exact p2.done a2.sit
    · rw [if_neg hd] at p2; exact p2.elim
end
end DL

/-! DLW: sum([d[k] for k in d if ..]) over a dict with pairs of ints as keys -/
namespace DL
open PySem PySem.Spec PyProof.Rows L2
def valsK (all : Kt) (x y : Int) : Kt → Option (List Int)
  | [] => some []
  | ([a, b], _) :: r => if a ≤ x ∧ b ≤ y then (match getK all [a, b] with
    | some (.int n) => (valsK all x y r).map (n :: ·)
    | _ => none) else valsK all x y r
  | _ => none
theorem valsK_cons {all : Kt} {x y : Int} {kd : List Int × PD} {r : Kt} {ns : List Int} (h : valsK all x y (kd :: r) = some ns) : ∃ a b, kd.1 = [a, b] ∧ ((¬ (a ≤ x ∧ b ≤ y) ∧ valsK all x y r = some ns) ∨ ((a ≤ x ∧ b ≤ y) ∧ ∃ n ms, getK all [a, b] = some (.int n) ∧ valsK all x y r = some ms ∧ ns = n :: ms)) := by
  obtain ⟨k, d⟩ := kd
  match k, h with
  | [a, b], h =>
    refine ⟨a, b, rfl, ?_⟩
    unfold valsK at h
    by_cases c : a ≤ x ∧ b ≤ y
    · rw [if_pos c] at h
      refine .inr ⟨c, ?_⟩
      split at h
      · rename_i n hn
        cases e : valsK all x y r with
        | none => rw [e] at h; cases h
        | some ms =>
          rw [e] at h
          exact ⟨n, ms, hn, rfl, (Option.some.inj h).symm⟩
      · cases h
    · rw [if_neg c] at h
      exact .inl ⟨c, h⟩
  | [], h => simp [valsK] at h
  | [_], h => simp [valsK] at h
  | _ :: _ :: _ :: _, h => simp [valsK] at h
theorem DgKV.at {G : Hp} : ∀ {kvs : List (List Key × V)} {s : Kt} {i : Nat} {k' : List Key} {v : V}, DgKV G kvs s → kvs[i]? = some (k', v) → ∃ k d, s[i]? = some (k, d) ∧ k' = kK k ∧ Dg G v d
  | _, _, _, _, _, .nil, e => by simp at e
  | _, _, 0, _, _, .cons a _, e => by
    simp only [List.getElem?_cons_zero, Option.some.injEq, Prod.mk.injEq] at e
    obtain ⟨rfl, rfl⟩ := e
    exact ⟨_, _, rfl, rfl, a⟩
  | _, _, i + 1, _, _, .cons _ b, e => by
    rw [List.getElem?_cons_succ] at e ⊢
    exact DgKV.at b e
abbrev Ext (H H' : Hp) : Prop := (∀ c o, H c = some o → H' c = some o) ∧ ∀ c, H' c = none → H c = none
theorem sum_core {K : PySem.W.Frag} {g : TG} {tt : TT} {te : TE} {vs : List Nat} {σ : St} {H G : Hp} {p : Addr} {kvs : List (List Key × V)} {s : Kt} {x y : Int} {ns : List Int} {Q : VK} {iw : Nat}
    (hw : σ[iw]? = some (some (.ref p))) (hp : H p = some (.dT kvs)) (dg : DgKV G kvs s) (hv : valsK s x y s = some ns) (hlen : s.length < 100000)
    (turn : ∀ (a b : Int) (q : Addr) (od : Obj) (H' : Hp) (P1 : Hp → Prop) (P2 : VK), H' q = some (.tup [.int a, .int b]) → H' p = some (.frz od (.dT kvs)) → (¬ (a ≤ x ∧ b ≤ y) → P1 H') →
      ((a ≤ x ∧ b ≤ y) → ∃ v, valV kvs (kK [a, b]) = some v ∧ ∀ H'', Ext H' H'' → P2 v H'') → g (.ref q) (wipe σ vs) H' fun σ2 H2 => wipe σ2 vs = wipe σ vs ∧ tt σ2 H2 fun b H3 => if b = true then te σ2 H3 P2 else P1 H3)
    (hq : ∀ H', Ext H H' → Q (.int ns.sum) H') : tLockE (tCB (rSum K) (tCons (tLc (iKeys (tVar iw)) g tt te vs) tNil)) σ H Q := by
  refine ⟨p, .dT kvs, hp, trivial, fun od => ?_⟩
  refine ⟨.ref p, hw, p, od, rfl, .inr ⟨kvs, upd_same, fun D nD => ?_⟩⟩
  have Dp : D ≠ p := fun z => by rw [z, upd_same] at nD; cases nD
  have hD0 : H D = none := by rw [upd_ne Dp] at nD; exact nD
  have hkl := dg.len
  refine ⟨fun i m H' => i + m = kvs.length ∧ H' p = some (.frz od (.dT kvs)) ∧ (∀ c o, c ≠ p → H c = some o → H' c = some o) ∧ (∀ c, H' c = none → H c = none) ∧ ∃ ms rs, H' D = some (.lst (ms.map V.int)) ∧ valsK s x y (s.drop i) = some rs ∧ ns = ms ++ rs ∧ ms.length ≤ i,
    ⟨kvs.length, by omega, by rw [upd_ne (Ne.symm Dp), upd_same], fun c o n e => ?_, fun c e => ?_, [], ns, upd_same, by rw [List.drop_zero]; exact hv, rfl, Nat.le_refl _⟩, fun i m H' hW => ?_⟩
  · rw [upd_ne (ne_of_none e hD0), upd_ne n]; exact e
  · by_cases z : c = D
    · rw [z]; exact hD0
    · rw [upd_ne z] at e
      by_cases z2 : c = p
      · rw [z2, upd_same] at e; cases e
      · rw [upd_ne z2] at e; exact e
  · obtain ⟨em, h1, h2, h3, ms, rs, h4, h5, h6, h7⟩ := hW
    by_cases hl : i < kvs.length
    · refine .inr ⟨⟨h1, hl⟩, fun H2 => (i + 1) + (m - 1) = kvs.length ∧ H2 p = some (.frz od (.dT kvs)) ∧ (∀ c o, c ≠ p → H c = some o → H2 c = some o) ∧ (∀ c, H2 c = none → H c = none) ∧ ∃ ms rs, H2 D = some (.lst (ms.map V.int)) ∧ valsK s x y (s.drop (i + 1)) = some rs ∧ ns = ms ++ rs ∧ ms.length ≤ i + 1, fun H2 hN => ⟨m - 1, by omega, hN⟩, ?_⟩
      rintro xv H2 ⟨rfl, k', v, q, ek, rfl, hqk⟩
      obtain ⟨k, d, es, rfl, rd⟩ := dg.at ek
      have hls : i < s.length := by rw [← hkl]; exact hl
      rw [List.drop_eq_getElem_cons hls] at h5
      have esi : s[i] = (k, d) := by
        have := List.getElem?_eq_getElem hls
        rw [es] at this
        exact (Option.some.inj this).symm
      rw [esi] at h5
      obtain ⟨a, b, ekab, hc⟩ := valsK_cons h5
      have ekab : k = [a, b] := ekab
      subst ekab
      refine turn a b q od H2 _ _ hqk h1 (fun nc => ?_) (fun c => ?_)
      · rcases hc with ⟨_, hr⟩ | ⟨c, _⟩
        · exact ⟨by omega, h1, h2, h3, ms, rs, h4, hr, h6, by omega⟩
        · exact absurd c nc
      · rcases hc with ⟨nc, _⟩ | ⟨_, n, ms2, hg, hr, hns⟩
        · exact absurd c nc
        · have hgg := dg.get (k := [a, b])
          rw [hg] at hgg
          obtain ⟨w, ew, rw'⟩ := hgg
          refine ⟨w, ew, fun H3 he => ?_⟩
          have := rw'.of_int
          subst this
          refine ⟨ms.map V.int, he.1 _ _ h4, ?_, ?_⟩
          · rw [List.length_map]
            have : sizeLine = 16777216 := sizeLine_eq
            omega
          · refine ⟨by omega, by rw [upd_ne (Ne.symm Dp)]; exact he.1 _ _ h1, fun c o nc e => ?_, fun c e => ?_, ms ++ [n], ms2, by rw [upd_same, List.map_append]; rfl, hr, by rw [h6, hns]; simp, by simp; omega⟩
            · have hcD : c ≠ D := ne_of_none e hD0
              rw [upd_ne hcD]; exact he.1 _ _ (h2 c o nc e)
            · by_cases z : c = D
              · rw [z, upd_same] at e; cases e
              · rw [upd_ne z] at e; exact h3 c (he.2 c e)
    · refine .inl ⟨⟨h1, by omega⟩, D, ns, rfl, SqL.of ?_, h1, hq _ ⟨fun c o e => ?_, fun c e => ?_⟩⟩
      · rw [List.drop_eq_nil_of_le (by omega)] at h5
        have : rs = [] := (Option.some.inj h5).symm
        subst this
        rw [h6, List.append_nil]; exact h4
      · by_cases z : c = p
        · subst z; rw [hp] at e; cases e; exact upd_same
        · rw [upd_ne z]; exact h2 c o z e
      · by_cases z : c = p
        · subst z; rw [upd_same] at e; cases e
        · rw [upd_ne z] at e; exact h3 c e
/-- the mirror -/
def cSumW {t1 : Type} (iw ix iy : Nat) : Env → t1 × Kt → R (PD × (t1 × Kt)) := fun ρ s => match ρ[iw]?, ρ[ix]?, ρ[iy]? with
  | some (some w), some (some (.int x)), some (some (.int y)) => if isT 1 w = true ∧ s.2.length < 100000 then (match valsK s.2 x y s.2 with
    | some ns => .ok (.int ns.sum, s)
    | none => .bad) else .bad
  | _, _, _ => .bad
section
variable {X : Cx} {O O' : List Nat} {W1 : Wd} {cls : Nat → Addr} {p : Addr} {G0 H0 : Hp} {E : XK}
theorem wipe_get {σ : St} {vs : List Nat} {i : Nat} (h : i ∉ vs) : (wipe σ vs)[i]? = σ[i]? := by
  induction vs with
  | nil => rfl
  | cons v vs ih =>
    show ((wipe σ vs).set v none)[i]? = _
    rw [List.getElem?_set_ne (fun z => h (by rw [z]; simp)), ih fun z => h (List.mem_cons_of_mem _ z)]
theorem wipe_len {σ : St} {vs : List Nat} : (wipe σ vs).length = σ.length := by
  induction vs with
  | nil => rfl
  | cons v vs ih => show ((wipe σ vs).set v none).length = _; rw [List.length_set, ih]
/-- sum([d[(a, b)] for a, b in d if a <= x and b <= y]) -/
theorem de_sumW (iw ix iy ia ib : Nat) {e : Expr} (hIa : ia < X.N.length) (hIb : ib < X.N.length)
    (h : PE X e (tLockE (tCB (rSum X.K) (tCons (tLc (iKeys (tVar iw)) (gTup X.K 2 (gCons (gName ia) (gCons (gName ib) gNil))) (tAnd (tTest (tOp (rI0 fun i j => .bl (decide (i ≤ j))) (tVar ia) (tVar ix))) (tTest (tOp (rI0 fun i j => .bl (decide (i ≤ j))) (tVar ib) (tVar iy)))) (tDGet (tVar iw) (tTup (tCons (tVar ia) (tCons (tVar ib) tNil)))) [ia, ib]) tNil))))
    (hwO : iw ∉ O := by decide) (hxO : ix ∉ O := by decide) (hyO : iy ∉ O := by decide) (n1 : ia ≠ ib := by decide) (n2 : iw ∉ [ia, ib] := by decide) (n3 : ix ∉ [ia, ib] := by decide) (n4 : iy ∉ [ia, ib] := by decide) :
    DE X ⟨W1.and (Wk cls p), G0, H0, E⟩ O e (cSumW (t1 := W1.d) iw ix iy) := by
  refine ⟨fun pins sh σ H Q I hq => h.run pins sh σ H Q I ?_⟩
  have hlen := I.len
  obtain ⟨G, ρ, s, a, q⟩ := hq
  unfold cSumW at q
  split at q
  · rename_i w x y e1 e2 e3
    split at q
    · rename_i hc
      split at q
      · rename_i ns hv
        obtain ⟨vw, f1, r1⟩ := a.rs.plain iw _ e1 hwO
        obtain ⟨vx, f2, r2⟩ := a.rs.plain ix _ e2 hxO
        obtain ⟨vy, f3, r3⟩ := a.rs.plain iy _ e3 hyO
        have hvw := Rp.isT1 r1 hc.1
        have hvx := (r2.dg (isD_tok rfl)).of_int
        have hvy := (r3.dg (isD_tok rfl)).of_int
        subst hvw hvx hvy
        obtain ⟨rp1, ⟨kvs, hp, dg⟩, dj⟩ := a.sit.rep
        refine sum_core (x := x) (y := y) f1 hp dg hv hc.2 ?_ fun H' he => ?_
        · intro u v q od H' P1 P2 hq hfz c1 c2
          have ga : ∀ {i : Nat} {z : V}, i ∉ [ia, ib] → σ[i]? = some (some z) → (((wipe σ [ia, ib]).set ia (some (.int u))).set ib (some (.int v)))[i]? = some (some z) := fun {i z} ni e => by
            have h1 : ia ≠ i := fun z => ni (by rw [z]; simp)
            have h2 : ib ≠ i := fun z => ni (by rw [z]; simp)
            rw [List.getElem?_set_ne h2, List.getElem?_set_ne h1, wipe_get ni]; exact e
          have gia : (((wipe σ [ia, ib]).set ia (some (.int u))).set ib (some (.int v)))[ia]? = some (some (.int u)) := by
            rw [List.getElem?_set_ne (Ne.symm n1), List.getElem?_set_self (by rw [wipe_len, hlen]; exact hIa)]
          have gib : (((wipe σ [ia, ib]).set ia (some (.int u))).set ib (some (.int v)))[ib]? = some (some (.int v)) := by
            rw [List.getElem?_set_self (by rw [List.length_set, wipe_len, hlen]; exact hIb)]
          refine ⟨q, _, rfl, SqT.of hq, rfl, .int u, _, rfl, .int v, _, rfl, rfl, ?_, ?_⟩
          · rw [wipe_set_in (by simp), wipe_set_in (by simp)]
            clear ga gia gib
            have tw : ∀ (vs : List Nat) (us : List Nat), (∀ v ∈ vs, v ∈ us) → wipe (wipe σ us) vs = wipe σ us := by
              intro vs us
              induction vs with
              | nil => intro _; rfl
              | cons v vs ih =>
                intro hv
                show (wipe (wipe σ us) vs).set v none = wipe σ us
                rw [ih fun w hw => hv w (List.mem_cons_of_mem _ hw)]
                have hn : ∀ y, (wipe σ us)[v]? ≠ some (some y) := fun y q => (wipe_some q).2 (hv v (by simp))
                apply List.ext_getElem?
                intro k
                by_cases hk : v = k
                · subst hk
                  by_cases hlt : v < (wipe σ us).length
                  · rw [List.getElem?_set_self hlt]
                    cases q : (wipe σ us)[v]? with
                    | none => rw [List.getElem?_eq_none_iff] at q; omega
                    | some y =>
                      cases y with
                      | none => rfl
                      | some y => exact absurd q (hn y)
                  · rw [List.getElem?_eq_none (by rw [List.length_set]; omega), List.getElem?_eq_none (by omega)]
                · rw [List.getElem?_set_ne hk]
            exact tw _ _ fun _ h => h
          · refine ⟨_, gia, _, ga n3 f2, u, x, rfl, rfl, _, rfl, ?_⟩
            by_cases hu : u ≤ x
            · rw [decide_eq_true hu]
              show (if true = true then _ else _)
              rw [if_pos rfl]
              refine ⟨_, gib, _, ga n4 f3, v, y, rfl, rfl, _, rfl, ?_⟩
              by_cases hvy : v ≤ y
              · rw [decide_eq_true hvy]
                show (if true = true then _ else _)
                rw [if_pos rfl]
                obtain ⟨w, ew, k⟩ := c2 ⟨hu, hvy⟩
                refine ⟨_, ga n2 f1, _, gia, _, gib, (by show 2 ≤ sizeLine; decide), fun T hT => ⟨p, w, rfl, .inr ⟨kvs, kK [u, v], T, .inr ⟨od, ?_⟩, rfl, upd_same, ew.symm⟩, k _ ⟨fun c o e => ?_, fun c e => ?_⟩⟩⟩
                · rw [upd_ne fun z => by rw [← z, hfz] at hT; cases hT]; exact hfz
                · rw [upd_ne (ne_of_none e hT)]; exact e
                · by_cases z : c = T
                  · rw [z, upd_same] at e; cases e
                  · rw [upd_ne z] at e; exact e
              · rw [decide_eq_false hvy]
                show (if false = true then _ else _)
                rw [if_neg Bool.false_ne_true]
                exact c1 fun z => hvy z.2
            · rw [decide_eq_false hu]
              show (if false = true then _ else (if false = true then _ else _))
              rw [if_neg Bool.false_ne_true, if_neg Bool.false_ne_true]
              exact c1 fun z => hu z.1
        · have g2 : Gr (fun _ => False) G H G H' := ⟨fun _ _ e => e, fun c o _ e => he.1 c o e, he.2, fun _ _ e => .inl e⟩
          exact q _ G H' (g2.weak fun _ z => z.elim) (a.sit.pure g2 fun c o e => he.1 c o (a.sit.sub c o e)) (.inl (.int _))
      · exact q.elim
    · exact q.elim
  · exact q.elim
end
end DL

/-! further mirrors, printed by gen.py -/
namespace DL
open PySem PySem.Spec PyProof.Rows L2
def b_count_curves {d : Type} : Env → d → R (Fl × d) :=
      (sSeq (sExpr (cCallF 2 m_check_numbers (aCons (cVar 0) (aCons (cVar 1) aNil))))
      (sNewD 2
      (sSeq (sFor (iRg1 (aCons (cOp pAdd (cVar 0) (cC (.int 1))) aNil)) (bNm 3)
      (sFor (iRg1 (aCons (cOp pAdd (cVar 1) (cC (.int 1))) aNil)) (bNm 4)
      (sSeq (sSet 5 (cSumW 2 3 4))
      (sDput (cIf (cTest (cOp pNe (cTup (aCons (cVar 3) (aCons (cVar 4) aNil))) (cTup (aCons (cC (.int 0)) (aCons (cC (.int 0)) aNil))))) (cVar 5) (cC (.int 1))) (cVar 2) (cTup (aCons (cVar 3) (aCons (cVar 4) aNil)))))))
      (sRet (cDget (cVar 2) (cTup (aCons (cVar 0) (aCons (cVar 1) aNil))))))))
def m_count_curves : List PD → R PD := mBody 6 b_count_curves
end DL

namespace KK
open PySem PySem.Spec PyProof.Rows L2 DL
abbrev Env := DL.Env
local macro_rules | `(tactic| walk_at "ev") => `(tactic| simp only [szL, Nat.reduceLeDiff, mBody, mBodyD, outP, outD, cVar, cC, cOp, cUn, cTest, cAndT, cOrT, cNotT, cAndV, cOrV, cIf, aNil, aCons, cTup, cLst, cSl, oNone, oSome, cCall, cCallF, cCallD, cMeth, noX', isL_list, isL_encP, tYesD, bnd_ok, bnd_exc, bnd_bad, lft_ok, lft_exc, lft_bad, isOk_ok, isOk_exc, isOk_bad, isD_int, isD_bool, isD_none, isD_str, isD_list, isD_tuple, isD_eP, isD_eT, isD_encP, isD_encT, allD, List.all_cons, List.all_nil, Bool.and_self, Bool.and_true, Bool.true_and, if_true, if_false, Bool.false_eq_true, ite_true, ite_false, reduceIte, List.length_cons, List.length_nil, List.map_cons, List.map_nil, List.cons_append, List.nil_append, List.replicate_succ, List.replicate_zero, List.getElem?_cons_zero, List.getElem?_cons_succ, List.set_cons_zero, List.set_cons_succ, wipeD, sSeq, sSet, sAsg, sRet, sIf, sExpr, sNil, sRaise, sSetF, sApp, sAug, sAugL, sPar, sPar3, fLst, bNm, bTup, bCons, bNil, pNot, pIsi, isiT, tyN, pNeg, Nat.reduceAdd, decide_true, decide_false, Bool.not_true, Bool.not_false, noX_ok, pLe_i, pLt_i, pGt_i, pGe_i, pAdd_i, pSub_i, pLen_l, pLen_t, pIx_t0, pIx_t1, pEq_i, pNe_i])
local macro_rules | `(tactic| walk_at "evs") => `(tactic| simp [szL, mBody, mBodyD, outP, outD, cVar, cC, cOp, cUn, cTest, cAndT, cOrT, cNotT, cAndV, cOrV, cIf, aNil, aCons, cTup, cLst, cSl, oNone, oSome, cCall, cCallF, cCallD, cMeth, noX', isL_list, isL_encP, tYesD, bnd_ok, bnd_exc, bnd_bad, lft_ok, lft_exc, lft_bad, isOk_ok, isOk_exc, isOk_bad, isD_int, isD_bool, isD_none, isD_str, isD_list, isD_tuple, isD_eP, isD_eT, isD_encP, isD_encT, allD, List.all_cons, List.all_nil, List.map_cons, List.map_nil, List.cons_append, List.nil_append, List.replicate_succ, List.replicate_zero, List.getElem?_cons_zero, List.getElem?_cons_succ, List.set_cons_zero, List.set_cons_succ, wipeD, sSeq, sSet, sAsg, sRet, sIf, sExpr, sNil, sRaise, sSetF, sApp, sAug, sAugL, sPar, sPar3, fLst, bNm, bTup, bCons, bNil, pNot, pIsi, isiT, tyN, pNeg, noX_ok, pLe_i, pLt_i, pGt_i, pGe_i, pAdd_i, pSub_i, pLen_l, pLen_t, pIx_t0, pIx_t1, pEq_i, pNe_i])
local macro_rules | `(tactic| walk_at "evx") => `(tactic| simp [szL, mBody, mBodyD, outP, outD, cVar, cC, cOp, cUn, cTest, cAndT, cOrT, cNotT, cAndV, cOrV, cIf, aNil, aCons, cTup, cLst, cSl, oNone, oSome, cCall, cCallF, cCallD, cMeth, noX', isL_list, isL_encP, tYesD, bnd_ok, bnd_exc, bnd_bad, lft_ok, lft_exc, lft_bad, isOk_ok, isOk_exc, isOk_bad, isD_int, isD_bool, isD_none, isD_str, isD_list, isD_tuple, isD_eP, isD_eT, isD_encP, isD_encT, allD, List.all_cons, List.all_nil, List.map_cons, List.map_nil, List.cons_append, List.nil_append, List.replicate_succ, List.replicate_zero, List.getElem?_cons_zero, List.getElem?_cons_succ, List.set_cons_zero, List.set_cons_succ, wipeD, sSeq, sSet, sAsg, sRet, sIf, sExpr, sNil, sRaise, sSetF, sApp, sAug, sAugL, sPar, sPar3, fLst, bNm, bTup, bCons, bNil, pNot, pIsi, isiT, tyN, pNeg, noX_ok, pLe_i, pLt_i, pGt_i, pGe_i, pAdd_i, pSub_i, pLen_l, pLen_t, pIx_t0, pIx_t1, pEq_i, pNe_i, *])
def b__law_second {d : Type} : Env → d → R (Fl × d) :=
      (sSeq (sIf (cOrT (cTest (cOp pNe (cCallF 1 m_pools (aCons (cVar 0) aNil)) (cLst (aCons (cTup (aCons (cC (.int 9)) (aCons (cC (.int 9)) (aCons (cC (.int 0)) (aCons (cC (.int 1)) aNil))))) (aCons (cTup (aCons (cC (.int 5)) (aCons (cC (.int 7)) (aCons (cC (.int 2)) (aCons (cC (.int 1)) aNil))))) (aCons (cTup (aCons (cC (.int 2)) (aCons (cC (.int 2)) (aCons (cC (.int 1)) (aCons (cC (.int 0)) aNil))))) aNil)))))) (cTest (cOp pNe (cCallF 2 m_first_below (aCons (cLst (aCons (cTup (aCons (cC (.int 0)) (aCons (cC (.int 0)) aNil))) (aCons (cTup (aCons (cC (.int 1)) (aCons (cC (.int 1)) aNil))) aNil))) (aCons (cLst (aCons (cTup (aCons (cC (.int 0)) (aCons (cC (.int 0)) aNil))) (aCons (cTup (aCons (cC (.int 0)) (aCons (cC (.int 1)) aNil))) (aCons (cTup (aCons (cC (.int 1)) (aCons (cC (.int 1)) aNil))) aNil)))) aNil))) (cC (.int 0)))))
      (sRet (cC (.bool false)))
      sNil)
      (sSeq (sIf (cOrT (cTest (cOp pNe (cCallF 1 m_things_with (aCons (cLst (aCons (cTup (aCons (cC (.int 0)) (aCons (cC (.int 0)) aNil))) (aCons (cTup (aCons (cC (.int 1)) (aCons (cC (.int 1)) aNil))) aNil))) aNil)) (cLst (aCons (cTup (aCons (cC (.int 1)) (aCons (cC (.bool false)) aNil))) (aCons (cTup (aCons (cC (.int 1)) (aCons (cC (.bool true)) aNil))) aNil))))) (cTest (cOp pNe (cCallF 2 m_count_curves (aCons (cC (.int 1)) (aCons (cC (.int 1)) aNil))) (cC (.int 3)))))
      (sRet (cC (.bool false)))
      sNil)
      (sRet (cOp pEq (cCallF 1 m_format_things (aCons (cLst (aCons (cTup (aCons (cC (.int 9)) (aCons (cC (.bool true)) aNil))) (aCons (cTup (aCons (cC (.int 7)) (aCons (cC (.bool false)) aNil))) aNil))) aNil)) (cC (.str "9+ 7-"))))))
def m__law_second : List PD → R PD := mBody 0 b__law_second
def b_law : Env → Dr → R (Fl × Dr) :=
      (sSeq (sSet 2 (cLst (aCons (cTup (aCons (cC (.int 9)) (aCons (cC (.bool true)) aNil))) (aCons (cTup (aCons (cC (.int 7)) (aCons (cC (.bool false)) aNil))) (aCons (cTup (aCons (cC (.int 5)) (aCons (cC (.bool true)) aNil))) (aCons (cTup (aCons (cC (.int 5)) (aCons (cC (.bool false)) aNil))) (aCons (cTup (aCons (cC (.int 2)) (aCons (cC (.bool false)) aNil))) aNil)))))))
      (sSeq (sIf (cOrT (cNotT (cTest (cCallF 1 m__law_first (aCons (cVar 2) aNil)))) (cNotT (cTest (cCallF 1 m__law_second (aCons (cVar 2) aNil)))))
      (sRet (cC (.bool false)))
      sNil)
      (sNewW 3 (cC (.int 6))
      (sSeq (sIf (cOrT (cTest (cOp pIsNot (cMethW 2 m_push (cVar 3) (aCons (cTup (aCons (cC (.int 7)) (aCons (cC (.bool false)) aNil))) aNil)) (cC (.bool true)))) (cTest (cOp pNe (cMethW0 m_W_counts (cVar 3)) (cTup (aCons (cC (.int 1)) (aCons (cC (.int 0)) (aCons (cC (.int 0)) (aCons (cC (.int 0)) aNil))))))))
      (sRet (cC (.bool false)))
      sNil)
      (sSeq (sSet 4 (cCallD2 2 m__law_draw (aCons (cVar 1) (aCons (cC (.int 101)) aNil))))
      (sRet (cAndV (cOp pEq (cCallF 4 m_mixed_alarms (aCons (cLst (aCons (cTup (aCons (cC (.int 50)) (aCons (cC (.bool true)) aNil))) aNil)) (aCons (cVar 4) (aCons (cVar 4) (aCons (cTup (aCons (cC (.int 1)) (aCons (cC (.int 3)) aNil))) aNil))))) (cTup (aCons (cTup (aCons (cC (.int 0)) (aCons (cC (.int 1)) aNil))) (aCons (cTup (aCons (cIf (cTest (cOp pLe (cVar 4) (cC (.int 50)))) (cC (.int 1)) (cC (.int 0))) (aCons (cC (.int 1)) aNil))) aNil)))) (cOp pEq (cCallF 1 m_area (aCons (cVar 2) aNil)) (cTup (aCons (cC (.int 3)) (aCons (cC (.int 4)) aNil)))))))))))

theorem ev_newW {t1 : Type} {i : Nat} {fe : Env → t1 → R (PD × t1)} {fr : Env → t1 × Wt → R (Fl × (t1 × Wt))} {ρ : Env} {s s1 : t1} {t : Int} {d w : PD} {s2 : t1 × Wt} (he : fe ρ s = .ok (.int t, s1)) (ht : m_check_threshold [.int t] = .ok w) (k : fr (ρ.set i (some (tokD 1))) (s1, (t, [])) = .ok (.rt d, s2)) (hd : isD d = true := by rfl) (nt : noT ρ = true := by rfl) : sNewW i fe fr ρ s = .ok (.rt d, s2.1) := by
  unfold sNewW
  rw [he, bnd_ok, if_pos nt]
  unfold newW
  rw [ht]
  dsimp only
  rw [k]
  unfold outNew
  dsimp only
  rw [if_pos hd]
abbrev T5 : List Th := [(9, true), (7, false), (5, true), (5, false), (2, false)]
theorem first_ok : m__law_first [encT T5] = .ok (.bool true) := by kernel_rfl
theorem second_ok : m__law_second [encT T5] = .ok (.bool true) := by kernel_rfl
theorem area_ok : m_area [encT T5] = .ok (.tuple [.int 3, .int 4]) := by kernel_rfl
abbrev T1 : List Th := [(50, true)]
theorem g1 : GoodT T1 := ⟨by decide, by decide, fun x hx => by rw [List.mem_singleton.mp hx]; decide⟩
theorem mixed_ok {l : Int} (h : 0 ≤ l ∧ l ≤ 100) : m_mixed_alarms [encT T1, .int l, .int l, .tuple [.int 1, .int 3]] = .ok (.tuple [.tuple [.int 0, .int 1], .tuple [.int (if l ≤ 50 then 1 else 0), .int 1]]) := by
  have e := m_mixed_alarms_eq g1 h h (sh := (1, 3)) ⟨by first | (constructor <;> decide) | (unfold IsLow; decide), by decide, by decide, by decide⟩ (by decide)
  refine Eq.trans e ?_
  by_cases c : l ≤ 50
  · have hc : DL.cnt T1 l = (0, 1) := by simp [DL.cnt, fa, tr, c]
    rw [hc, if_pos c]
    kernel_rfl
  · have hc : DL.cnt T1 l = (0, 0) := by simp [DL.cnt, fa, tr, c]
    rw [hc, if_neg c]
    kernel_rfl
theorem law_true : ∀ ns : List Int, 0 < ns.length → ∃ s', b_law (none :: some (tokD 0) :: List.replicate 3 none) (ns, 0) = .ok (.rt (.bool true), s') := fun ns hns => by
  have hs : Live (ns, 0) := hns
  obtain ⟨l, s1, e1, l1, u1, v1⟩ := draw_ev (lim := 101) (by decide) (by decide) hs
  refine ⟨s1, ?_⟩
  unfold b_law
  refine ev_let (v := encT T5) (s1 := (ns, 0)) rfl (ev_guard (s1 := (ns, 0)) (ev_or_f (s' := (ns, 0)) (ev_not (b := true) (ev_test (ev_callF rfl first_ok))) (ev_not (b := true) (ev_test (ev_callF rfl second_ok)))) ?_)
  refine ev_newW (s1 := (ns, 0)) (t := 6) (w := .none) (s2 := (s1, (6, [(7, false)].map eT))) rfl (by kernel_rfl) ?_
  refine ev_guard (s1 := ((ns, 0), (6, [(7, false)].map eT))) (by kernel_rfl) ?_
  refine ev_let (v := .int l) (s1 := (s1, (6, [(7, false)].map eT))) (ev_D2 (ds := [tokD 0, .int 101]) (s1 := ((ns, 0), (6, [(7, false)].map eT))) rfl e1) ?_
  have hx : SeqAt.shaped (.tuple [.tuple [.int 0, .int 1], .tuple [.int (if l ≤ 50 then 1 else 0), .int 1]]) = true := (Sh.tuple (n := 1) fun x hx => by
    simp only [List.mem_cons, List.not_mem_nil, or_false] at hx
    rcases hx with rfl | rfl
    · exact sh_eP (0, 1)
    · exact sh_eP (if l ≤ 50 then 1 else 0, 1)).ok (by decide)
  refine ret_of (ev_and (s1 := (s1, (6, [(7, false)].map eT))) (ev_op (x := .tuple [.tuple [.int 0, .int 1], .tuple [.int (if l ≤ 50 then 1 else 0), .int 1]]) (y := .tuple [.tuple [.int 0, .int 1], .tuple [.int (if l ≤ 50 then 1 else 0), .int 1]]) (ev_callF (xs := [encT T1, .int l, .int l, .tuple [.int 1, .int 3]]) rfl (mixed_ok ⟨l1, by omega⟩)) ?_ ?_) (ev_op (x := .tuple [.int 3, .int 4]) (y := .tuple [.int 3, .int 4]) (ev_callF (xs := [encT T5]) rfl area_ok) rfl (by kernel_rfl))) rfl
  · refine ev_tup (ev_aC rfl (ev_a1 (ev_tup (ev_aC ?_ (ev_a1 rfl)))))
    unfold cIf
    by_cases c : l ≤ 50
    · rw [ev_test (b := true) (s' := (s1, (6, [(7, false)].map eT))) (ev_op rfl rfl (by rw [pLe_i, decide_eq_true c])), bnd_ok, if_pos rfl, if_pos c]
      rfl
    · rw [ev_test (b := false) (s' := (s1, (6, [(7, false)].map eT))) (ev_op rfl rfl (by rw [pLe_i, decide_eq_false c])), bnd_ok, if_neg Bool.false_ne_true, if_neg c]
      rfl
  · rw [pEq_ok hx hx]
    have : PyData.eqv (.tuple [.tuple [.int 0, .int 1], .tuple [.int (if l ≤ 50 then 1 else 0), .int 1]]) (.tuple [.tuple [.int 0, .int 1], .tuple [.int (if l ≤ 50 then 1 else 0), .int 1]]) = true := by simp [PyData.eqv, PyData.eqvAll]
    rw [this]


abbrev sW (j : Nat) : Stmt := inClass (top 66) j
theorem sc_W_init : FnScope ["self", "threshold"] ["self", "threshold"] (defScope (sW 0)) := ⟨rfl, rfl, rfl, by decide +kernel, rfl, by decide +kernel, by decide +kernel⟩
theorem ok_W_init {P : Program} {w : World} {K : PySem.W.Frag} {mg : Str → Option Value} {base : Heap} {f C : Addr} {fd : FuncData} {cls : Nat → Addr} {k : Nat} (F : FunD K "__init__" "Watch.__init__" (defArgs (sW 0)) (defBody (sW 0)) (defScope (sW 0)) [] [] f fd) (T : WaC K mg C) (fC : FnP P w K mg base cls k "check_threshold" 1 m_check_threshold) :
    FnOk P w K mg base (L2.CX P w) (k + 1) f fd ["self", "threshold"] (spInitW cls C) := by
  refine F.ok sc_W_init (fun vs H Q E h => ?_) (fun cdv A outer s H vs Q E hr h => ?_)
  · obtain ⟨x, dx, v, G, d, rfl, _⟩ := h
    rfl
  · obtain ⟨x, dx, v, G, d, rfl, sb, hx, hdx, rv, p⟩ := h
    have tk := takesE_of (P := P) (w := w) (K := K) (mg := mg) (base := base) (N := ["self", "threshold"]) (qual := "Watch.__init__") (scope := defScope (sW 0)) (f := f) (cd := cdv) (A := A) (outer := outer) (s := s) (H := H) (E := E)
    have hxx := passesE_of tk
    refine ⟨_, pss_cons (ds_expr (B := ⟨Wp cls (fun _ => .ref x), G, H, E⟩) (O := []) (de_call fC (hr.mono (Nat.le_refl _)) hxx (da_cons (de_var 1) da_nil))) (pss_cons (ps_fld (pv 0) (pv 1) rfl) (pss_one (ps_fld (pv 0) (pe_lst pa_nil) rfl))), ?_⟩
    have a0 : At ⟨Wp cls (fun _ => .ref x), G, H, E⟩ [] (L2.start ["self", "threshold"] [.ref x, v]) H G (startD ["self", "threshold"] [tokD 0, d]) () := ⟨⟨sb, fun _ z => z.elim, fun _ z => z.elim, trivial⟩, .refl, RpAll.begin_ (W := Wp cls (fun _ => .ref x)) _ (.cons (.inr ⟨0, rfl, rfl⟩) (.cons (.inl rv) .nil))⟩
    refine ⟨G, _, (), a0, ?_⟩
    show PostS ⟨Wp cls (fun _ => .ref x), G, H, E⟩ [] _ (bnd (lft (m_check_threshold [d]) ()) fun _ s1 => .ok (.nx [some (tokD 0), some d], s1))
    revert p
    cases m_check_threshold [d] with
    | bad => exact fun p => p.elim
    | exc c => exact fun p G' H' g => p H' (fun a o e => g.h a o (fun z => z) e) g.dom
    | ok r =>
      intro p σ' G' H' a1
      obtain ⟨t, rfl, q⟩ := p
      obtain ⟨v0, e0, r0⟩ := a1.rs.plain 0 (tokD 0) rfl (by simp)
      obtain ⟨v1, e1, r1⟩ := a1.rs.plain 1 (.int t) rfl (by simp)
      have hv0 : v0 = .ref x := by
        rcases r0 with r0 | ⟨n, _, e⟩
        · cases r0
        · exact e
      have hv1 := (r1.dg (isD_tok rfl)).of_int
      subst hv0 hv1
      have g : Gr (fun _ => False) G H G' H' := a1.gr
      have hx' := g.h _ _ (fun z => z) hx
      have hdx' := g.h _ _ (fun z => z) hdx
      refine ⟨_, e1, _, e0, x, C, dx, [], rfl, hx', T.cl, T.nT, (by show 0 < 1000; decide), ?_⟩
      refine ⟨Nat.zero_le _, fun l hl => ⟨_, e0, x, C, dx, putF "threshold" (.int t) [], rfl, ?_, T.cl, T.nL, (by show 1 < 1000; decide), ?_⟩⟩
      · rw [upd_ne (fun z => by rw [← z, upd_same] at hl; cases hl), upd_same]
      · have lx : l ≠ x := fun z => by rw [z, upd_same] at hl; cases hl
        have hl' : H' l = none := by rw [upd_ne lx] at hl; exact hl
        refine q l _ (g.dom l hl') (fun a o n e => ?_) (fun a e => ?_) upd_same ?_
        · have h1 := g.h a o (fun z => z) e
          rw [upd_ne n, upd_ne (ne_of_none h1 hl'), upd_ne n]; exact h1
        · by_cases z : a = x
          · rw [z, upd_same] at e; cases e
          · rw [upd_ne z] at e
            by_cases z2 : a = l
            · rw [z2, upd_same] at e; cases e
            · rw [upd_ne z2, upd_ne z] at e; exact g.dom a e
        · rw [upd_ne lx, upd_same]
theorem sc_W_push : FnScope ["self", "thing"] ["self", "thing"] (defScope (sW 1)) := ⟨rfl, rfl, rfl, by decide +kernel, rfl, by decide +kernel, by decide +kernel⟩
theorem ok_W_push {P : Program} {w : World} {K : PySem.W.Frag} {mg : Str → Option Value} {base : Heap} {f C : Addr} {fd : FuncData} {cls : Nat → Addr} {k : Nat} (F : FunD K "push" "Watch.push" (defArgs (sW 1)) (defBody (sW 1)) (defScope (sW 1)) [] [] f fd) (T : WaC K mg C) (fT : FnP P w K mg base cls k "is_thing" 1 m_is_thing) (x0 : ExcF K mg cls 0 "BadThings") :
    FnOk P w K mg base (L2.CX P w) (k + 1) f fd ["self", "thing"] (spW cls (Ww cls C) 2 fun _ => m_push) := by
  refine F.ok sc_W_push (fun vs H Q E h => ?_) (fun cdv A outer s H vs Q E hr h => ?_)
  · obtain ⟨i, G, ds, s, _, r, hl, _⟩ := h
    rw [r.len, hl]; rfl
  · obtain ⟨i, G, ds, ⟨t, es⟩, S, r, hl, p⟩ := h
    have tk := takesE_of (P := P) (w := w) (K := K) (mg := mg) (base := base) (N := ["self", "thing"]) (qual := "Watch.push") (scope := defScope (sW 1)) (f := f) (cd := cdv) (A := A) (outer := outer) (s := s) (H := H) (E := E)
    have hxx := passesE_of tk
    replace p : PostW cls (Ww cls C i) G H (m_push ds (t, es)) Q E := p
    unfold m_push at p
    split at p
    · rename_i z d
      refine ⟨_, pss_cons (ds_if (B := ⟨Wp cls (fun _ => .ref i.1), G, H, E⟩) (O := []) (O' := []) (dt_not (dt_val (de_call fT (hr.mono (Nat.le_refl _)) hxx (da_cons (de_var 1) da_nil)))) (dss_one (ds_raise tk x0.c)) dss_nil)
        (pss_cons (ps_expr (pe_bm PySem.F.plainAttrs_list PySem.F.slot_list_append PySem.F.type_list_append mt_append (pe_fld (pv 0) rfl) (pa_cons (pv 1) pa_nil)))
        (pss_one (ps_ret (pe_cmpR op_ge (pe_ix ix_tup (pv 1) pe_int (fun _ _ => rfl)) (pe_fld (pv 0) rfl) (nomark _))))), ?_⟩
      have a0 : At ⟨Wp cls (fun _ => .ref i.1), G, H, E⟩ [] (L2.start ["self", "thing"] vs) H G (startD ["self", "thing"] [.dict z, d]) () := ⟨⟨S.sub, fun _ z => z.elim, fun _ z => z.elim, trivial⟩, .refl, RpAll.begin_ (W := Wp cls (fun _ => .ref i.1)) _ r⟩
      refine ⟨G, _, (), a0, ?_⟩
      show PostS ⟨Wp cls (fun _ => .ref i.1), G, H, E⟩ [] _ (bnd (bnd (bnd (lft (m_is_thing [d]) ()) fun x s1 => match x with | .bool b => .ok (b, s1) | _ => .bad) fun x s1 => .ok (!x, s1)) fun x s1 => if x = true then sRaise 0 [some (.dict z), some d] s1 else sNil [some (.dict z), some d] s1)
      revert p
      cases m_is_thing [d] with
      | bad => exact fun p => p.elim
      | exc c => exact fun p => p.elim
      | ok b =>
        cases b with
        | bool b =>
          cases b with
          | false => exact fun p G' H' g => p G' H' g
          | true =>
            intro p σ' G' H' a1
            dsimp only at p
            split at p
            · rename_i a0' rest
              split at p
              · rename_i hlen
                have g : Gr (fun _ => False) G H G' H' := a1.gr
                have S1 := S.pure g a1.sit.sub
                obtain ⟨n, r1, r2, ws, r3, r4⟩ := S1.rep
                obtain ⟨v1, e1, q1⟩ := a1.rs.plain 1 _ rfl (by simp)
                obtain ⟨v0, e0, q0⟩ := a1.rs.plain 0 (.dict z) rfl (by simp)
                obtain ⟨_, hv0⟩ := pd_tok q0
                have hv0 : v0 = .ref i.1 := hv0
                subst hv0
                have hd1 := q1.dg (isD_tok rfl)
                obtain ⟨ta, tvs, rfl, gt, dt⟩ := id hd1.of_tup
                have ht' := a1.sit.sub _ _ gt
                cases dt with
                | cons da db =>
                  have hw0 := da.of_int
                  subst hw0
                  have at0 : ∀ us : List V, L2.atI (V.int a0' :: us) 0 = some (V.int a0') := fun us => by
                    unfold L2.atI ixN
                    rw [if_pos (by decide), if_pos (by rw [List.length_cons]; omega)]
                    rfl
                  have ntl : ta ≠ i.2.2 := fun z => by rw [z, r3] at ht'; cases ht'
                  refine ⟨_, e0, i.1, C, i.2.1, _, _, rfl, r1, T.cl, T.nL, wf_line _ _, .inl ⟨rfl, _, SqL.of r3⟩, _, e1, i.2.2, _, _, rfl, rfl, r3, (by rw [r4.len]; exact Nat.lt_of_lt_of_le hlen (by decide)), ?_⟩
                  have SU := Sit.upd (W := Ww cls C i) (s' := (t, es ++ [.tuple (.int a0' :: rest)])) (p := i.2.2) (o := .lst (ws ++ [.ref ta])) S1 (.inr (.inr rfl)) ⟨n, by rw [upd_ne n.2.1]; exact r1, by rw [upd_ne n.2.2]; exact r2, _, upd_same, r4.app (.cons hd1 .nil)⟩
                  refine ⟨_, e1, ta, _, 0, .int a0', rfl, rfl, SqT.of (by rw [upd_ne ntl]; exact ht'), at0 _, _, e0, i.1, C, i.2.1, _, .int t, rfl, by rw [upd_ne n.2.1]; exact r1, T.cl, T.nT, wf_thr _ _, a0', t, rfl, rfl, ?_⟩
                  exact p _ G' _ ((g.weak fun _ z => z.elim).trans SU.2) SU.1 (.inl (.bl _))
              · exact p.elim
            · exact p.elim
        | _ => exact fun p => p.elim
    · exact p.elim
theorem sc_W_things : FnScope ["self"] ["self"] (defScope (sW 4)) := ⟨rfl, rfl, rfl, by decide +kernel, rfl, by decide +kernel, by decide +kernel⟩
theorem ok_W_things {P : Program} {w : World} {K : PySem.W.Frag} {mg : Str → Option Value} {base : Heap} {f C : Addr} {fd : FuncData} {cls : Nat → Addr} (F : FunD K "things" "Watch.things" (defArgs (sW 4)) (defBody (sW 4)) (defScope (sW 4)) [] [] f fd) (T : WaC K mg C) (g : Free mg) :
    FnOk P w K mg base (L2.CX P w) 1 f fd ["self"] (spW cls (Ww cls C) 1 fun _ => m_things) := by
  refine F.ok sc_W_things (fun vs H Q E h => ?_) (fun cdv A outer s H vs Q E hr h => ?_)
  · obtain ⟨i, G, ds, s, _, r, hl, _⟩ := h
    rw [r.len, hl]; rfl
  · obtain ⟨i, G, ds, ⟨t, es⟩, S, r, hl, p⟩ := h
    replace p : PostW cls (Ww cls C i) G H (m_things ds (t, es)) Q E := p
    unfold m_things at p
    split at p
    · cases r with
      | cons ra rb =>
        cases rb
        obtain ⟨_, hv0⟩ := pd_tok ra
        subst hv0
        obtain ⟨n, r1, r2, ws, r3, r4⟩ := id S.rep
        refine ⟨_, pss_one (ps_ret (pe_callTy call_list_of (by rfl) g.list_ (by decide +kernel) (pa_cons (pe_fld (pv 0) rfl) pa_nil))), ?_⟩
        refine ⟨_, rfl, i.1, C, i.2.1, _, _, rfl, r1, T.cl, T.nL, wf_line _ _, i.2.2, _, rfl, .inl (SqL.of r3), fun q hq => ?_⟩
        have ga := Gr.alloc (fp := (Ww cls C i).fp) (o := .lst ws) S.sub hq
        exact p _ _ _ ga (S.alloc hq) (.inl (.lst upd_same (r4.mono ga.g)))
    · exact p.elim
theorem sc_W_len : FnScope ["self"] ["self"] (defScope (sW 6)) := ⟨rfl, rfl, rfl, by decide +kernel, rfl, by decide +kernel, by decide +kernel⟩
theorem ok_W_len {P : Program} {w : World} {K : PySem.W.Frag} {mg : Str → Option Value} {base : Heap} {f C : Addr} {fd : FuncData} {cls : Nat → Addr} (F : FunD K "__len__" "Watch.__len__" (defArgs (sW 6)) (defBody (sW 6)) (defScope (sW 6)) [] [] f fd) (T : WaC K mg C) (g : Free mg) :
    FnOk P w K mg base (L2.CX P w) 1 f fd ["self"] (spW cls (Ww cls C) 1 fun _ => m_wlen) := by
  refine F.ok sc_W_len (fun vs H Q E h => ?_) (fun cdv A outer s H vs Q E hr h => ?_)
  · obtain ⟨i, G, ds, s, _, r, hl, _⟩ := h
    rw [r.len, hl]; rfl
  · obtain ⟨i, G, ds, ⟨t, es⟩, S, r, hl, p⟩ := h
    replace p : PostW cls (Ww cls C i) G H (m_wlen ds (t, es)) Q E := p
    unfold m_wlen at p
    split at p
    · cases r with
      | cons ra rb =>
        cases rb
        obtain ⟨_, hv0⟩ := pd_tok ra
        subst hv0
        dsimp only at p
        split at p
        · obtain ⟨n, r1, r2, ws, r3, r4⟩ := id S.rep
          refine ⟨_, pss_one (ps_ret (pe_callB call_len_seq (by rfl) g.len_ PySem.boot_len (pa_cons (pe_fld (pv 0) rfl) pa_nil))), ?_⟩
          refine ⟨_, rfl, i.1, C, i.2.1, _, _, rfl, r1, T.cl, T.nL, wf_line _ _, i.2.2, _, rfl, .inl (SqL.of r3), ?_⟩
          rw [r4.len]
          exact p _ G H .refl S (.inl (.int _))
        · exact p.elim
    · exact p.elim

theorem sc_W_counts : FnScope ["self", "found", "score", "faulty"] ["self"] (defScope (sW 3)) := ⟨rfl, rfl, rfl, by decide +kernel, rfl, by decide +kernel, by decide +kernel⟩
theorem ok_W_counts {P : Program} {w : World} {K : PySem.W.Frag} {mg : Str → Option Value} {base : Heap} {f C : Addr} {fd : FuncData} {cls : Nat → Addr} (F : FunD K "counts" "Watch.counts" (defArgs (sW 3)) (defBody (sW 3)) (defScope (sW 3)) [] [] f fd) (T : WaC K mg C) (g : Free mg)  :
    FnOk P w K mg base (L2.CX P w) 1 f fd ["self"] (spW cls (Ww cls C) 1 fun _ => m_W_counts) :=
  fn_rd (k := 0) (fb := b_W_counts) F sc_W_counts rfl (fun cdv A outer s H E tkk i ds G1 H1 hr => by
    have hp := passesO_of (CX := L2.CX P w) (P := P) (w := w) (K := K) (mg := mg) (base := base) (N := ["self", "found", "score", "faulty"]) (qual := "Watch.counts") (scope := defScope (sW 3)) (f := f) (cd := cdv) (A := A) (outer := outer) (s := s) (H := H) (E := E)
    exact (dss_cons (O1 := [1]) (ds_setF (O' := [1]) 1 sc_W_counts.nd (df_lst (da_cons de_int (da_cons de_int (da_cons de_int (da_cons de_int da_nil))))))
      (dss_cons (O1 := [1]) (ds_for hp (di_list (de_line T (de_var 0))) (dg_tup (bLen_cons (bLen_cons bLen_nil)) (dgs_cons (dg_name 2 sc_W_counts.nd) (dgs_cons (dg_name 3 sc_W_counts.nd) dgs_nil))) (fun _ =>
      (dss_one (ds_if (dt_cmp dop_ge (de_var 2) (de_thr T (de_var 0)))
      (dss_one (ds_augIx 1 (de_if (dt_val (de_var 3)) de_int de_int)))
      (dss_one (ds_augIx 1 (de_if (dt_val (de_var 3)) de_int de_int)))))))
      (dss_less (O1 := []) (by decide) (dss_one (ds_ret (de_callTy dc_tuple g.tuple_ (da_cons (de_var 1) da_nil))))))))
theorem sc_is_int : FnScope ["value", "low", "high"] ["value", "low", "high"] (defScope (top 9)) := ⟨rfl, rfl, rfl, by decide +kernel, rfl, by decide +kernel, by decide +kernel⟩
theorem ok_is_int {P : Program} {w : World} {K : PySem.W.Frag} {mg : Str → Option Value} {base : Heap} {f : Addr} {fd : FuncData} {cls : Nat → Addr} (F : FunD K "is_int" "is_int" (defArgs (top 9)) (defBody (top 9)) (defScope (top 9)) [] [] f fd) (hm : mg "is_int" = some (.ref f)) (g : Free mg) :
    FnP P w K mg base cls 1 "is_int" 3 m_is_int :=
  fn_pure (k := 0) F sc_is_int hm rfl (F.bindsN fun _ _ _ _ _ _ us hl => match us, hl with | [_, _, _], _ => rfl) fun cdv A outer s H E _ G hr => by
    have tk := takesE_of (P := P) (w := w) (K := K) (mg := mg) (base := base) (N := ["value", "low", "high"]) (qual := "is_int") (scope := defScope (top 9)) (f := f) (cd := cdv) (A := A) (outer := outer) (s := s) (H := H) (E := E)
    have hx := passesE_of tk
    have hp := passesO_of (CX := L2.CX P w) (P := P) (w := w) (K := K) (mg := mg) (base := base) (N := ["value", "low", "high"]) (qual := "is_int") (scope := defScope (top 9)) (f := f) (cd := cdv) (A := A) (outer := outer) (s := s) (H := H) (E := E)
    exact (dss_one (ds_ret (de_and (de_isi tyOk_int g.isinstance_ g.int_ (de_var 0)) (de_and (de_not (de_isi tyOk_bool g.isinstance_ g.bool_ (de_var 0))) (de_one (de_chain dop_le dop_le (de_var 1) (de_var 0) (de_var 2)))))))
theorem sc_common : FnScope ["one", "other"] ["one", "other"] (defScope (top 18)) := ⟨rfl, rfl, rfl, by decide +kernel, rfl, by decide +kernel, by decide +kernel⟩
theorem ok_common {P : Program} {w : World} {K : PySem.W.Frag} {mg : Str → Option Value} {base : Heap} {f : Addr} {fd : FuncData} {cls : Nat → Addr} (F : FunD K "common" "common" (defArgs (top 18)) (defBody (top 18)) (defScope (top 18)) [] [] f fd) (hm : mg "common" = some (.ref f)) (g : Free mg) :
    FnP P w K mg base cls 1 "common" 2 m_common :=
  fn_pure (k := 0) F sc_common hm rfl (F.bindsN fun _ _ _ _ _ _ us hl => match us, hl with | [_, _], _ => rfl) fun cdv A outer s H E _ G hr => by
    have tk := takesE_of (P := P) (w := w) (K := K) (mg := mg) (base := base) (N := ["one", "other"]) (qual := "common") (scope := defScope (top 18)) (f := f) (cd := cdv) (A := A) (outer := outer) (s := s) (H := H) (E := E)
    have hx := passesE_of tk
    have hp := passesO_of (CX := L2.CX P w) (P := P) (w := w) (K := K) (mg := mg) (base := base) (N := ["one", "other"]) (qual := "common") (scope := defScope (top 18)) (f := f) (cd := cdv) (A := A) (outer := outer) (s := s) (H := H) (E := E)
    exact (dss_cons (O1 := []) (ds_par 0 1 sc_common.nd (da_cons (de_callB dc_abs g.abs_ (da_cons (de_var 0) da_nil)) (da_cons (de_callB dc_abs g.abs_ (da_cons (de_var 1) da_nil)) da_nil)))
      (dss_cons (O1 := []) (ds_while (n := (fuInt 1)) hp (dt_cmp (dop_ne hr.units) (de_var 1) de_int)
      (dss_one (ds_par 0 1 sc_common.nd (da_cons (de_var 1) (da_cons (de_op dop_mod (de_var 0) (de_var 1)) da_nil)))))
      (dss_one (ds_ret (de_var 0)))))
theorem sc_less : FnScope ["one", "other"] ["one", "other"] (defScope (top 22)) := ⟨rfl, rfl, rfl, by decide +kernel, rfl, by decide +kernel, by decide +kernel⟩
theorem ok_less {P : Program} {w : World} {K : PySem.W.Frag} {mg : Str → Option Value} {base : Heap} {f : Addr} {fd : FuncData} {cls : Nat → Addr} (F : FunD K "less" "less" (defArgs (top 22)) (defBody (top 22)) (defScope (top 22)) [] [] f fd) (hm : mg "less" = some (.ref f)) (g : Free mg) :
    FnP P w K mg base cls 1 "less" 2 m_less :=
  fn_pure (k := 0) F sc_less hm rfl (F.bindsN fun _ _ _ _ _ _ us hl => match us, hl with | [_, _], _ => rfl) fun cdv A outer s H E _ G hr => by
    have tk := takesE_of (P := P) (w := w) (K := K) (mg := mg) (base := base) (N := ["one", "other"]) (qual := "less") (scope := defScope (top 22)) (f := f) (cd := cdv) (A := A) (outer := outer) (s := s) (H := H) (E := E)
    have hx := passesE_of tk
    have hp := passesO_of (CX := L2.CX P w) (P := P) (w := w) (K := K) (mg := mg) (base := base) (N := ["one", "other"]) (qual := "less") (scope := defScope (top 22)) (f := f) (cd := cdv) (A := A) (outer := outer) (s := s) (H := H) (E := E)
    exact (dss_one (ds_ret (de_cmp dop_lt (de_op dop_mul (de_ix (de_var 0) de_int) (de_ix (de_var 1) de_int)) (de_op dop_mul (de_ix (de_var 1) de_int) (de_ix (de_var 0) de_int)))))
theorem sc_counts : FnScope ["things", "threshold", "false", "score", "faulty"] ["things", "threshold"] (defScope (top 26)) := ⟨rfl, rfl, rfl, by decide +kernel, rfl, by decide +kernel, by decide +kernel⟩
theorem ok_counts {P : Program} {w : World} {K : PySem.W.Frag} {mg : Str → Option Value} {base : Heap} {f : Addr} {fd : FuncData} {cls : Nat → Addr} (F : FunD K "counts" "counts" (defArgs (top 26)) (defBody (top 26)) (defScope (top 26)) [] [] f fd) (hm : mg "counts" = some (.ref f)) (g : Free mg) :
    FnP P w K mg base cls 1 "counts" 2 m_counts :=
  fn_pure (k := 0) F sc_counts hm rfl (F.bindsN fun _ _ _ _ _ _ us hl => match us, hl with | [_, _], _ => rfl) fun cdv A outer s H E _ G hr => by
    have tk := takesE_of (P := P) (w := w) (K := K) (mg := mg) (base := base) (N := ["things", "threshold", "false", "score", "faulty"]) (qual := "counts") (scope := defScope (top 26)) (f := f) (cd := cdv) (A := A) (outer := outer) (s := s) (H := H) (E := E)
    have hx := passesE_of tk
    have hp := passesO_of (CX := L2.CX P w) (P := P) (w := w) (K := K) (mg := mg) (base := base) (N := ["things", "threshold", "false", "score", "faulty"]) (qual := "counts") (scope := defScope (top 26)) (f := f) (cd := cdv) (A := A) (outer := outer) (s := s) (H := H) (E := E)
    exact (dss_cons (O1 := []) (ds_set 2 sc_counts.nd (de_callB dc_len g.len_ (da_cons (de_lc [("score", 3), ("faulty", 4)] sc_counts.nd (di_list (de_var 0)) (by rfl) (fun _ _ _ _ _ => (dg_tup (bLen_cons (bLen_cons bLen_nil)) (dgs_cons (dg_name 3 sc_counts.nd) (dgs_cons (dg_name 4 sc_counts.nd) dgs_nil)))) (fun _ _ _ _ _ => (dts_one (dt_bool (dw_and (dt_cmp dop_ge (de_var 3) (de_var 1)) (dw_and1 (dt_not (dt_val (de_var 4)))))))) (fun _ _ _ _ _ => de_int)) da_nil)))
      (dss_one (ds_ret (de_tup (da_cons (de_var 2) (da_cons (de_callB dc_len g.len_ (da_cons (de_lc [("score", 3), ("faulty", 4)] sc_counts.nd (di_list (de_var 0)) (by rfl) (fun _ _ _ _ _ => (dg_tup (bLen_cons (bLen_cons bLen_nil)) (dgs_cons (dg_name 3 sc_counts.nd) (dgs_cons (dg_name 4 sc_counts.nd) dgs_nil)))) (fun _ _ _ _ _ => (dts_one (dt_bool (dw_and (dt_cmp dop_ge (de_var 3) (de_var 1)) (dw_and1 (dt_val (de_var 4))))))) (fun _ _ _ _ _ => de_int)) da_nil)) da_nil))))))
theorem sc_scores_of : FnScope ["things", "score", "faulty"] ["things"] (defScope (top 27)) := ⟨rfl, rfl, rfl, by decide +kernel, rfl, by decide +kernel, by decide +kernel⟩
theorem ok_scores_of {P : Program} {w : World} {K : PySem.W.Frag} {mg : Str → Option Value} {base : Heap} {f : Addr} {fd : FuncData} {cls : Nat → Addr} (F : FunD K "scores_of" "scores_of" (defArgs (top 27)) (defBody (top 27)) (defScope (top 27)) [] [] f fd) (hm : mg "scores_of" = some (.ref f)) (g : Free mg) :
    FnP P w K mg base cls 1 "scores_of" 1 m_scores_of :=
  fn_pure (k := 0) F sc_scores_of hm rfl (F.bindsN fun _ _ _ _ _ _ us hl => match us, hl with | [_], _ => rfl) fun cdv A outer s H E _ G hr => by
    have tk := takesE_of (P := P) (w := w) (K := K) (mg := mg) (base := base) (N := ["things", "score", "faulty"]) (qual := "scores_of") (scope := defScope (top 27)) (f := f) (cd := cdv) (A := A) (outer := outer) (s := s) (H := H) (E := E)
    have hx := passesE_of tk
    have hp := passesO_of (CX := L2.CX P w) (P := P) (w := w) (K := K) (mg := mg) (base := base) (N := ["things", "score", "faulty"]) (qual := "scores_of") (scope := defScope (top 27)) (f := f) (cd := cdv) (A := A) (outer := outer) (s := s) (H := H) (E := E)
    exact (dss_one (ds_ret (de_rev (de_sortSet g.sorted_ g.set_ (de_lc [("score", 1), ("faulty", 2)] sc_scores_of.nd (di_list (de_var 0)) (by rfl) (fun _ _ _ _ _ => (dg_tup (bLen_cons (bLen_cons bLen_nil)) (dgs_cons (dg_name 1 sc_scores_of.nd) (dgs_cons (dg_name 2 sc_scores_of.nd) dgs_nil)))) (fun _ _ _ _ _ => dts_nil) (fun _ _ _ _ _ => (de_var 1)))))))
theorem sc_outcomes : FnScope ["things", "won", "tied", "lost", "score", "faulty", "other", "other_faulty"] ["things"] (defScope (top 32)) := ⟨rfl, rfl, rfl, by decide +kernel, rfl, by decide +kernel, by decide +kernel⟩
theorem ok_outcomes {P : Program} {w : World} {K : PySem.W.Frag} {mg : Str → Option Value} {base : Heap} {f : Addr} {fd : FuncData} {cls : Nat → Addr} (F : FunD K "outcomes" "outcomes" (defArgs (top 32)) (defBody (top 32)) (defScope (top 32)) [] [] f fd) (hm : mg "outcomes" = some (.ref f)) (g : Free mg) :
    FnP P w K mg base cls 1 "outcomes" 1 m_outcomes :=
  fn_pure (k := 0) F sc_outcomes hm rfl (F.bindsN fun _ _ _ _ _ _ us hl => match us, hl with | [_], _ => rfl) fun cdv A outer s H E _ G hr => by
    have tk := takesE_of (P := P) (w := w) (K := K) (mg := mg) (base := base) (N := ["things", "won", "tied", "lost", "score", "faulty", "other", "other_faulty"]) (qual := "outcomes") (scope := defScope (top 32)) (f := f) (cd := cdv) (A := A) (outer := outer) (s := s) (H := H) (E := E)
    have hx := passesE_of tk
    have hp := passesO_of (CX := L2.CX P w) (P := P) (w := w) (K := K) (mg := mg) (base := base) (N := ["things", "won", "tied", "lost", "score", "faulty", "other", "other_faulty"]) (qual := "outcomes") (scope := defScope (top 32)) (f := f) (cd := cdv) (A := A) (outer := outer) (s := s) (H := H) (E := E)
    exact (dss_cons (O1 := []) (ds_asg (de_tup (da_cons de_int (da_cons de_int (da_cons de_int da_nil)))) (dg_tup (bLen_cons (bLen_cons (bLen_cons bLen_nil))) (dgs_cons (dg_name 1 sc_outcomes.nd) (dgs_cons (dg_name 2 sc_outcomes.nd) (dgs_cons (dg_name 3 sc_outcomes.nd) dgs_nil)))))
      (dss_cons (O1 := []) (ds_for hp (di_list (de_var 0)) (dg_tup (bLen_cons (bLen_cons bLen_nil)) (dgs_cons (dg_name 4 sc_outcomes.nd) (dgs_cons (dg_name 5 sc_outcomes.nd) dgs_nil))) (fun _ =>
      (dss_one (ds_for hp (di_list (de_var 0)) (dg_tup (bLen_cons (bLen_cons bLen_nil)) (dgs_cons (dg_name 6 sc_outcomes.nd) (dgs_cons (dg_name 7 sc_outcomes.nd) dgs_nil))) (fun _ =>
      (dss_one (ds_if (dt_bool (dw_and (dt_val (de_var 5)) (dw_and1 (dt_not (dt_val (de_var 7))))))
      (dss_cons (O1 := []) (ds_aug 1 sc_outcomes.nd (de_if (dt_cmp dop_gt (de_var 4) (de_var 6)) de_int de_int))
      (dss_cons (O1 := []) (ds_aug 2 sc_outcomes.nd (de_if (dt_cmp (dop_eq hr.units) (de_var 4) (de_var 6)) de_int de_int))
      (dss_one (ds_aug 3 sc_outcomes.nd (de_if (dt_cmp dop_lt (de_var 4) (de_var 6)) de_int de_int)))))
      dss_nil)))))))
      (dss_one (ds_ret (de_tup (da_cons (de_var 1) (da_cons (de_var 2) (da_cons (de_var 3) da_nil))))))))
theorem sc_double_area : FnScope ["points", "found", "one", "other"] ["points"] (defScope (top 34)) := ⟨rfl, rfl, rfl, by decide +kernel, rfl, by decide +kernel, by decide +kernel⟩
theorem ok_double_area {P : Program} {w : World} {K : PySem.W.Frag} {mg : Str → Option Value} {base : Heap} {f : Addr} {fd : FuncData} {cls : Nat → Addr} (F : FunD K "double_area" "double_area" (defArgs (top 34)) (defBody (top 34)) (defScope (top 34)) [] [] f fd) (hm : mg "double_area" = some (.ref f)) (g : Free mg) :
    FnP P w K mg base cls 1 "double_area" 1 m_double_area :=
  fn_pure (k := 0) F sc_double_area hm rfl (F.bindsN fun _ _ _ _ _ _ us hl => match us, hl with | [_], _ => rfl) fun cdv A outer s H E _ G hr => by
    have tk := takesE_of (P := P) (w := w) (K := K) (mg := mg) (base := base) (N := ["points", "found", "one", "other"]) (qual := "double_area") (scope := defScope (top 34)) (f := f) (cd := cdv) (A := A) (outer := outer) (s := s) (H := H) (E := E)
    have hx := passesE_of tk
    have hp := passesO_of (CX := L2.CX P w) (P := P) (w := w) (K := K) (mg := mg) (base := base) (N := ["points", "found", "one", "other"]) (qual := "double_area") (scope := defScope (top 34)) (f := f) (cd := cdv) (A := A) (outer := outer) (s := s) (H := H) (E := E)
    exact (dss_cons (O1 := []) (ds_set 1 sc_double_area.nd de_int)
      (dss_cons (O1 := []) (ds_for hp (di_zip g.zip_ (da_cons (de_var 0) (da_cons (de_slice (de_var 0) (do_some de_int) do_none) da_nil))) (dg_tup (bLen_cons (bLen_cons bLen_nil)) (dgs_cons (dg_name 2 sc_double_area.nd) (dgs_cons (dg_name 3 sc_double_area.nd) dgs_nil))) (fun _ =>
      (dss_one (ds_aug 1 sc_double_area.nd (de_op dop_mul (de_op dop_sub (de_ix (de_var 3) de_int) (de_ix (de_var 2) de_int)) (de_op dop_add (de_ix (de_var 2) de_int) (de_ix (de_var 3) de_int)))))))
      (dss_one (ds_ret (de_var 1)))))
theorem sc_way_turn : FnScope ["one", "middle", "other", "wide", "high"] ["one", "middle", "other"] (defScope (top 37)) := ⟨rfl, rfl, rfl, by decide +kernel, rfl, by decide +kernel, by decide +kernel⟩
theorem ok_way_turn {P : Program} {w : World} {K : PySem.W.Frag} {mg : Str → Option Value} {base : Heap} {f : Addr} {fd : FuncData} {cls : Nat → Addr} (F : FunD K "way_turn" "way_turn" (defArgs (top 37)) (defBody (top 37)) (defScope (top 37)) [] [] f fd) (hm : mg "way_turn" = some (.ref f)) (g : Free mg) :
    FnP P w K mg base cls 1 "way_turn" 3 m_way_turn :=
  fn_pure (k := 0) F sc_way_turn hm rfl (F.bindsN fun _ _ _ _ _ _ us hl => match us, hl with | [_, _, _], _ => rfl) fun cdv A outer s H E _ G hr => by
    have tk := takesE_of (P := P) (w := w) (K := K) (mg := mg) (base := base) (N := ["one", "middle", "other", "wide", "high"]) (qual := "way_turn") (scope := defScope (top 37)) (f := f) (cd := cdv) (A := A) (outer := outer) (s := s) (H := H) (E := E)
    have hx := passesE_of tk
    have hp := passesO_of (CX := L2.CX P w) (P := P) (w := w) (K := K) (mg := mg) (base := base) (N := ["one", "middle", "other", "wide", "high"]) (qual := "way_turn") (scope := defScope (top 37)) (f := f) (cd := cdv) (A := A) (outer := outer) (s := s) (H := H) (E := E)
    exact (dss_cons (O1 := []) (ds_par 3 4 sc_way_turn.nd (da_cons (de_op dop_sub (de_ix (de_var 1) de_int) (de_ix (de_var 0) de_int)) (da_cons (de_op dop_sub (de_ix (de_var 1) de_int) (de_ix (de_var 0) de_int)) da_nil)))
      (dss_one (ds_ret (de_op dop_sub (de_op dop_mul (de_var 3) (de_op dop_sub (de_ix (de_var 2) de_int) (de_ix (de_var 0) de_int))) (de_op dop_mul (de_var 4) (de_op dop_sub (de_ix (de_var 2) de_int) (de_ix (de_var 0) de_int)))))))
theorem sc_falls : FnScope ["one", "other"] ["one", "other"] (defScope (top 52)) := ⟨rfl, rfl, rfl, by decide +kernel, rfl, by decide +kernel, by decide +kernel⟩
theorem ok_falls {P : Program} {w : World} {K : PySem.W.Frag} {mg : Str → Option Value} {base : Heap} {f : Addr} {fd : FuncData} {cls : Nat → Addr} (F : FunD K "falls" "falls" (defArgs (top 52)) (defBody (top 52)) (defScope (top 52)) [] [] f fd) (hm : mg "falls" = some (.ref f)) (g : Free mg) :
    FnP P w K mg base cls 1 "falls" 2 m_falls :=
  fn_pure (k := 0) F sc_falls hm rfl (F.bindsN fun _ _ _ _ _ _ us hl => match us, hl with | [_, _], _ => rfl) fun cdv A outer s H E _ G hr => by
    have tk := takesE_of (P := P) (w := w) (K := K) (mg := mg) (base := base) (N := ["one", "other"]) (qual := "falls") (scope := defScope (top 52)) (f := f) (cd := cdv) (A := A) (outer := outer) (s := s) (H := H) (E := E)
    have hx := passesE_of tk
    have hp := passesO_of (CX := L2.CX P w) (P := P) (w := w) (K := K) (mg := mg) (base := base) (N := ["one", "other"]) (qual := "falls") (scope := defScope (top 52)) (f := f) (cd := cdv) (A := A) (outer := outer) (s := s) (H := H) (E := E)
    exact (dss_one (ds_ret (de_cmp dop_lt (de_op dop_mul (de_ix (de_var 1) de_int) (de_op dop_add (de_ix (de_var 0) de_int) (de_ix (de_var 0) de_int))) (de_op dop_mul (de_ix (de_var 0) de_int) (de_op dop_add (de_ix (de_var 1) de_int) (de_ix (de_var 1) de_int))))))
theorem sc_put_together : FnScope ["one", "other"] ["one", "other"] (defScope (top 53)) := ⟨rfl, rfl, rfl, by decide +kernel, rfl, by decide +kernel, by decide +kernel⟩
theorem ok_put_together {P : Program} {w : World} {K : PySem.W.Frag} {mg : Str → Option Value} {base : Heap} {f : Addr} {fd : FuncData} {cls : Nat → Addr} (F : FunD K "put_together" "put_together" (defArgs (top 53)) (defBody (top 53)) (defScope (top 53)) [] [] f fd) (hm : mg "put_together" = some (.ref f)) (g : Free mg) :
    FnP P w K mg base cls 1 "put_together" 2 m_put_together :=
  fn_pure (k := 0) F sc_put_together hm rfl (F.bindsN fun _ _ _ _ _ _ us hl => match us, hl with | [_, _], _ => rfl) fun cdv A outer s H E _ G hr => by
    have tk := takesE_of (P := P) (w := w) (K := K) (mg := mg) (base := base) (N := ["one", "other"]) (qual := "put_together") (scope := defScope (top 53)) (f := f) (cd := cdv) (A := A) (outer := outer) (s := s) (H := H) (E := E)
    have hx := passesE_of tk
    have hp := passesO_of (CX := L2.CX P w) (P := P) (w := w) (K := K) (mg := mg) (base := base) (N := ["one", "other"]) (qual := "put_together") (scope := defScope (top 53)) (f := f) (cd := cdv) (A := A) (outer := outer) (s := s) (H := H) (E := E)
    exact (dss_one (ds_ret (de_lst (da_cons (de_ix (de_var 1) de_int) (da_cons (de_ix (de_var 0) de_int) (da_cons (de_op dop_add (de_ix (de_var 0) de_int) (de_ix (de_var 1) de_int)) (da_cons (de_op dop_add (de_ix (de_var 0) de_int) (de_ix (de_var 1) de_int)) da_nil)))))))
theorem sc_is_thing : FnScope ["value"] ["value"] (defScope (top 10)) := ⟨rfl, rfl, rfl, by decide +kernel, rfl, by decide +kernel, by decide +kernel⟩
theorem ok_is_thing {P : Program} {w : World} {K : PySem.W.Frag} {mg : Str → Option Value} {base : Heap} {f : Addr} {fd : FuncData} {cls : Nat → Addr} (F : FunD K "is_thing" "is_thing" (defArgs (top 10)) (defBody (top 10)) (defScope (top 10)) [] [] f fd) (hm : mg "is_thing" = some (.ref f)) (g : Free mg) (f_is_int : FnP P w K mg base cls 1 "is_int" 3 m_is_int) {t_MOST_SCORE : Tok} (c_MOST_SCORE : mg "MOST_SCORE" = some (.int 99 t_MOST_SCORE)) :
    FnP P w K mg base cls 2 "is_thing" 1 m_is_thing :=
  fn_pure (k := 1) F sc_is_thing hm rfl (F.bindsN fun _ _ _ _ _ _ us hl => match us, hl with | [_], _ => rfl) fun cdv A outer s H E _ G hr => by
    have tk := takesE_of (P := P) (w := w) (K := K) (mg := mg) (base := base) (N := ["value"]) (qual := "is_thing") (scope := defScope (top 10)) (f := f) (cd := cdv) (A := A) (outer := outer) (s := s) (H := H) (E := E)
    have hx := passesE_of tk
    have hp := passesO_of (CX := L2.CX P w) (P := P) (w := w) (K := K) (mg := mg) (base := base) (N := ["value"]) (qual := "is_thing") (scope := defScope (top 10)) (f := f) (cd := cdv) (A := A) (outer := outer) (s := s) (H := H) (E := E)
    exact (dss_cons (O1 := []) (ds_if (dt_bool (dw_or (dt_not (dt_val (de_isi tyOk_tuple g.isinstance_ g.tuple_ (de_var 0)))) (dw_or1 (dt_cmp (dop_ne hr.units) (de_callB dc_len g.len_ (da_cons (de_var 0) da_nil)) de_int))))
      (dss_one (ds_ret de_bl))
      dss_nil)
      (dss_one (ds_ret (de_and (de_call f_is_int (hr.mono (by decide)) hx (da_cons (de_ix (de_var 0) de_int) (da_cons de_int (da_cons (de_gint c_MOST_SCORE) da_nil)))) (de_one (de_isi tyOk_bool g.isinstance_ g.bool_ (de_ix (de_var 0) de_int)))))))
theorem sc_check_threshold : FnScope ["value"] ["value"] (defScope (top 13)) := ⟨rfl, rfl, rfl, by decide +kernel, rfl, by decide +kernel, by decide +kernel⟩
theorem ok_check_threshold {P : Program} {w : World} {K : PySem.W.Frag} {mg : Str → Option Value} {base : Heap} {f : Addr} {fd : FuncData} {cls : Nat → Addr} (F : FunD K "check_threshold" "check_threshold" (defArgs (top 13)) (defBody (top 13)) (defScope (top 13)) [] [] f fd) (hm : mg "check_threshold" = some (.ref f)) (g : Free mg) (f_is_int : FnP P w K mg base cls 1 "is_int" 3 m_is_int) {t_MOST_SCORE : Tok} (c_MOST_SCORE : mg "MOST_SCORE" = some (.int 99 t_MOST_SCORE)) (x_BadNumber : ExcF K mg cls 1 "BadNumber") :
    FnP P w K mg base cls 2 "check_threshold" 1 m_check_threshold :=
  fn_pure (k := 1) F sc_check_threshold hm rfl (F.bindsN fun _ _ _ _ _ _ us hl => match us, hl with | [_], _ => rfl) fun cdv A outer s H E _ G hr => by
    have tk := takesE_of (P := P) (w := w) (K := K) (mg := mg) (base := base) (N := ["value"]) (qual := "check_threshold") (scope := defScope (top 13)) (f := f) (cd := cdv) (A := A) (outer := outer) (s := s) (H := H) (E := E)
    have hx := passesE_of tk
    have hp := passesO_of (CX := L2.CX P w) (P := P) (w := w) (K := K) (mg := mg) (base := base) (N := ["value"]) (qual := "check_threshold") (scope := defScope (top 13)) (f := f) (cd := cdv) (A := A) (outer := outer) (s := s) (H := H) (E := E)
    exact (dss_one (ds_if (dt_not (dt_val (de_call f_is_int (hr.mono (by decide)) hx (da_cons (de_var 0) (da_cons de_int (da_cons (de_op dop_add (de_gint c_MOST_SCORE) de_int) da_nil))))))
      (dss_one (ds_raise tk (x_BadNumber.c)))
      dss_nil))
theorem sc_check_cost : FnScope ["value"] ["value"] (defScope (top 14)) := ⟨rfl, rfl, rfl, by decide +kernel, rfl, by decide +kernel, by decide +kernel⟩
theorem ok_check_cost {P : Program} {w : World} {K : PySem.W.Frag} {mg : Str → Option Value} {base : Heap} {f : Addr} {fd : FuncData} {cls : Nat → Addr} (F : FunD K "check_cost" "check_cost" (defArgs (top 14)) (defBody (top 14)) (defScope (top 14)) [] [] f fd) (hm : mg "check_cost" = some (.ref f)) (g : Free mg) (f_is_int : FnP P w K mg base cls 1 "is_int" 3 m_is_int) (x_BadNumber : ExcF K mg cls 1 "BadNumber") :
    FnP P w K mg base cls 2 "check_cost" 1 m_check_cost :=
  fn_pure (k := 1) F sc_check_cost hm rfl (F.bindsN fun _ _ _ _ _ _ us hl => match us, hl with | [_], _ => rfl) fun cdv A outer s H E _ G hr => by
    have tk := takesE_of (P := P) (w := w) (K := K) (mg := mg) (base := base) (N := ["value"]) (qual := "check_cost") (scope := defScope (top 14)) (f := f) (cd := cdv) (A := A) (outer := outer) (s := s) (H := H) (E := E)
    have hx := passesE_of tk
    have hp := passesO_of (CX := L2.CX P w) (P := P) (w := w) (K := K) (mg := mg) (base := base) (N := ["value"]) (qual := "check_cost") (scope := defScope (top 14)) (f := f) (cd := cdv) (A := A) (outer := outer) (s := s) (H := H) (E := E)
    exact (dss_one (ds_if (dt_not (dt_val (de_call f_is_int (hr.mono (by decide)) hx (da_cons (de_var 0) (da_cons de_int (da_cons de_int da_nil))))))
      (dss_one (ds_raise tk (x_BadNumber.c)))
      dss_nil))
theorem sc_is_points : FnScope ["value", "point", "one", "other", "part"] ["value"] (defScope (top 15)) := ⟨rfl, rfl, rfl, by decide +kernel, rfl, by decide +kernel, by decide +kernel⟩
theorem ok_is_points {P : Program} {w : World} {K : PySem.W.Frag} {mg : Str → Option Value} {base : Heap} {f : Addr} {fd : FuncData} {cls : Nat → Addr} (F : FunD K "is_points" "is_points" (defArgs (top 15)) (defBody (top 15)) (defScope (top 15)) [] [] f fd) (hm : mg "is_points" = some (.ref f)) (g : Free mg) (f_is_int : FnP P w K mg base cls 1 "is_int" 3 m_is_int) {t_MOST_THINGS : Tok} (c_MOST_THINGS : mg "MOST_THINGS" = some (.int 12 t_MOST_THINGS)) :
    FnP P w K mg base cls 2 "is_points" 1 m_is_points :=
  fn_pure (k := 1) F sc_is_points hm rfl (F.bindsN fun _ _ _ _ _ _ us hl => match us, hl with | [_], _ => rfl) fun cdv A outer s H E _ G hr => by
    have tk := takesE_of (P := P) (w := w) (K := K) (mg := mg) (base := base) (N := ["value", "point", "one", "other", "part"]) (qual := "is_points") (scope := defScope (top 15)) (f := f) (cd := cdv) (A := A) (outer := outer) (s := s) (H := H) (E := E)
    have hx := passesE_of tk
    have hp := passesO_of (CX := L2.CX P w) (P := P) (w := w) (K := K) (mg := mg) (base := base) (N := ["value", "point", "one", "other", "part"]) (qual := "is_points") (scope := defScope (top 15)) (f := f) (cd := cdv) (A := A) (outer := outer) (s := s) (H := H) (E := E)
    exact (dss_cons (O1 := []) (ds_if (dt_bool (dw_or (dt_not (dt_val (de_isi tyOk_list g.isinstance_ g.list_ (de_var 0)))) (dw_or (dt_not (dt_chain dop_le dop_le de_int (de_callB dc_len g.len_ (da_cons (de_var 0) da_nil)) (de_op dop_add (de_gint c_MOST_THINGS) de_int))) (dw_or1 (dt_cmp (dop_ne hr.units) (de_ix (de_var 0) de_int) (de_tup (da_cons de_int (da_cons de_int da_nil))))))))
      (dss_one (ds_ret de_bl))
      dss_nil)
      (dss_cons (O1 := []) (ds_for hp (di_list (de_var 0)) (dg_name 1 sc_is_points.nd) (fun _ =>
      (dss_one (ds_if (dt_bool (dw_or (dt_not (dt_val (de_isi tyOk_tuple g.isinstance_ g.tuple_ (de_var 1)))) (dw_or (dt_cmp (dop_ne hr.units) (de_callB dc_len g.len_ (da_cons (de_var 1) da_nil)) de_int) (dw_or1 (dt_not (dt_val (de_callB (dc_all rfl) g.all_ (da_cons (de_lc [("part", 4)] sc_is_points.nd (di_tup (de_var 1)) (by rfl) (fun _ _ _ _ _ => (dg_name 4 sc_is_points.nd)) (fun _ _ _ _ _ => dts_nil) (fun _ _ _ _ _ => (de_call f_is_int (hr.mono (by decide)) passL (da_cons (de_var 4) (da_cons de_int (da_cons (de_gint c_MOST_THINGS) da_nil)))))) da_nil))))))))
      (dss_one (ds_ret de_bl))
      dss_nil))))
      (dss_cons (O1 := []) (ds_for hp (di_zip g.zip_ (da_cons (de_var 0) (da_cons (de_slice (de_var 0) (do_some de_int) do_none) da_nil))) (dg_tup (bLen_cons (bLen_cons bLen_nil)) (dgs_cons (dg_name 2 sc_is_points.nd) (dgs_cons (dg_name 3 sc_is_points.nd) dgs_nil))) (fun _ =>
      (dss_one (ds_if (dt_bool (dw_or (dt_cmp dop_gt (de_ix (de_var 2) de_int) (de_ix (de_var 3) de_int)) (dw_or (dt_cmp dop_gt (de_ix (de_var 2) de_int) (de_ix (de_var 3) de_int)) (dw_or1 (dt_cmp (dop_eq hr.units) (de_var 2) (de_var 3))))))
      (dss_one (ds_ret de_bl))
      dss_nil))))
      (dss_one (ds_ret (de_cmp dop_le (de_callB (dc_sum rfl) g.sum_ (da_cons (de_ix (de_var 0) (de_un dun_neg de_int)) da_nil)) (de_gint c_MOST_THINGS)))))))
theorem sc_lowest : FnScope ["top", "below", "divisor"] ["top", "below"] (defScope (top 19)) := ⟨rfl, rfl, rfl, by decide +kernel, rfl, by decide +kernel, by decide +kernel⟩
theorem ok_lowest {P : Program} {w : World} {K : PySem.W.Frag} {mg : Str → Option Value} {base : Heap} {f : Addr} {fd : FuncData} {cls : Nat → Addr} (F : FunD K "lowest" "lowest" (defArgs (top 19)) (defBody (top 19)) (defScope (top 19)) [] [] f fd) (hm : mg "lowest" = some (.ref f)) (g : Free mg) (f_common : FnP P w K mg base cls 1 "common" 2 m_common) :
    FnP P w K mg base cls 2 "lowest" 2 m_lowest :=
  fn_pure (k := 1) F sc_lowest hm rfl (F.bindsN fun _ _ _ _ _ _ us hl => match us, hl with | [_, _], _ => rfl) fun cdv A outer s H E _ G hr => by
    have tk := takesE_of (P := P) (w := w) (K := K) (mg := mg) (base := base) (N := ["top", "below", "divisor"]) (qual := "lowest") (scope := defScope (top 19)) (f := f) (cd := cdv) (A := A) (outer := outer) (s := s) (H := H) (E := E)
    have hx := passesE_of tk
    have hp := passesO_of (CX := L2.CX P w) (P := P) (w := w) (K := K) (mg := mg) (base := base) (N := ["top", "below", "divisor"]) (qual := "lowest") (scope := defScope (top 19)) (f := f) (cd := cdv) (A := A) (outer := outer) (s := s) (H := H) (E := E)
    exact (dss_cons (O1 := []) (ds_if (dt_cmp dop_lt (de_var 1) de_int)
      (dss_one (ds_par 0 1 sc_lowest.nd (da_cons (de_un dun_neg (de_var 0)) (da_cons (de_un dun_neg (de_var 1)) da_nil))))
      dss_nil)
      (dss_cons (O1 := []) (ds_set 2 sc_lowest.nd (de_call f_common (hr.mono (by decide)) hx (da_cons (de_var 0) (da_cons (de_var 1) da_nil))))
      (dss_one (ds_ret (de_tup (da_cons (de_op dop_div (de_var 0) (de_var 2)) (da_cons (de_op dop_div (de_var 1) (de_var 2)) da_nil)))))))
theorem sc_is_mean : FnScope ["value", "most"] ["value", "most"] (defScope (top 23)) := ⟨rfl, rfl, rfl, by decide +kernel, rfl, by decide +kernel, by decide +kernel⟩
theorem ok_is_mean {P : Program} {w : World} {K : PySem.W.Frag} {mg : Str → Option Value} {base : Heap} {f : Addr} {fd : FuncData} {cls : Nat → Addr} (F : FunD K "is_mean" "is_mean" (defArgs (top 23)) (defBody (top 23)) (defScope (top 23)) [] [] f fd) (hm : mg "is_mean" = some (.ref f)) (g : Free mg) (f_is_int : FnP P w K mg base cls 1 "is_int" 3 m_is_int) (f_common : FnP P w K mg base cls 1 "common" 2 m_common) :
    FnP P w K mg base cls 2 "is_mean" 2 m_is_mean :=
  fn_pure (k := 1) F sc_is_mean hm rfl (F.bindsN fun _ _ _ _ _ _ us hl => match us, hl with | [_, _], _ => rfl) fun cdv A outer s H E _ G hr => by
    have tk := takesE_of (P := P) (w := w) (K := K) (mg := mg) (base := base) (N := ["value", "most"]) (qual := "is_mean") (scope := defScope (top 23)) (f := f) (cd := cdv) (A := A) (outer := outer) (s := s) (H := H) (E := E)
    have hx := passesE_of tk
    have hp := passesO_of (CX := L2.CX P w) (P := P) (w := w) (K := K) (mg := mg) (base := base) (N := ["value", "most"]) (qual := "is_mean") (scope := defScope (top 23)) (f := f) (cd := cdv) (A := A) (outer := outer) (s := s) (H := H) (E := E)
    exact (dss_cons (O1 := []) (ds_if (dt_bool (dw_or (dt_not (dt_val (de_isi tyOk_tuple g.isinstance_ g.tuple_ (de_var 0)))) (dw_or (dt_cmp (dop_ne hr.units) (de_callB dc_len g.len_ (da_cons (de_var 0) da_nil)) de_int) (dw_or1 (dt_not (dt_val (de_call f_is_int (hr.mono (by decide)) hx (da_cons (de_ix (de_var 0) de_int) (da_cons de_int (da_cons de_int da_nil))))))))))
      (dss_one (ds_ret de_bl))
      dss_nil)
      (dss_one (ds_ret (de_and (de_call f_is_int (hr.mono (by decide)) hx (da_cons (de_ix (de_var 0) de_int) (da_cons de_int (da_cons (de_op dop_mul (de_var 1) (de_ix (de_var 0) de_int)) da_nil)))) (de_one (de_cmp (dop_eq hr.units) (de_call f_common (hr.mono (by decide)) hx (da_cons (de_ix (de_var 0) de_int) (da_cons (de_ix (de_var 0) de_int) da_nil))) de_int))))))
theorem sc_points_of : FnScope ["things", "score"] ["things"] (defScope (top 28)) := ⟨rfl, rfl, rfl, by decide +kernel, rfl, by decide +kernel, by decide +kernel⟩
theorem ok_points_of {P : Program} {w : World} {K : PySem.W.Frag} {mg : Str → Option Value} {base : Heap} {f : Addr} {fd : FuncData} {cls : Nat → Addr} (F : FunD K "points_of" "points_of" (defArgs (top 28)) (defBody (top 28)) (defScope (top 28)) [] [] f fd) (hm : mg "points_of" = some (.ref f)) (g : Free mg) (f_counts : FnP P w K mg base cls 1 "counts" 2 m_counts) (f_scores_of : FnP P w K mg base cls 1 "scores_of" 1 m_scores_of) :
    FnP P w K mg base cls 2 "points_of" 1 m_points_of :=
  fn_pure (k := 1) F sc_points_of hm rfl (F.bindsN fun _ _ _ _ _ _ us hl => match us, hl with | [_], _ => rfl) fun cdv A outer s H E _ G hr => by
    have tk := takesE_of (P := P) (w := w) (K := K) (mg := mg) (base := base) (N := ["things", "score"]) (qual := "points_of") (scope := defScope (top 28)) (f := f) (cd := cdv) (A := A) (outer := outer) (s := s) (H := H) (E := E)
    have hx := passesE_of tk
    have hp := passesO_of (CX := L2.CX P w) (P := P) (w := w) (K := K) (mg := mg) (base := base) (N := ["things", "score"]) (qual := "points_of") (scope := defScope (top 28)) (f := f) (cd := cdv) (A := A) (outer := outer) (s := s) (H := H) (E := E)
    exact (dss_one (ds_ret (de_op dop_add (de_lst (da_cons (de_tup (da_cons de_int (da_cons de_int da_nil))) da_nil)) (de_lc [("score", 1)] sc_points_of.nd (di_list (de_call f_scores_of (hr.mono (by decide)) hx (da_cons (de_var 0) da_nil))) (by rfl) (fun _ _ _ _ _ => (dg_name 1 sc_points_of.nd)) (fun _ _ _ _ _ => dts_nil) (fun _ _ _ _ _ => (de_call f_counts (hr.mono (by decide)) passL (da_cons (de_var 0) (da_cons (de_var 1) da_nil))))))))
theorem sc_corners_of : FnScope ["points", "found", "point"] ["points"] (defScope (top 38)) := ⟨rfl, rfl, rfl, by decide +kernel, rfl, by decide +kernel, by decide +kernel⟩
theorem ok_corners_of {P : Program} {w : World} {K : PySem.W.Frag} {mg : Str → Option Value} {base : Heap} {f : Addr} {fd : FuncData} {cls : Nat → Addr} (F : FunD K "corners_of" "corners_of" (defArgs (top 38)) (defBody (top 38)) (defScope (top 38)) [] [] f fd) (hm : mg "corners_of" = some (.ref f)) (g : Free mg) (f_way_turn : FnP P w K mg base cls 1 "way_turn" 3 m_way_turn) :
    FnP P w K mg base cls 2 "corners_of" 1 m_corners_of :=
  fn_pure (k := 1) F sc_corners_of hm rfl (F.bindsN fun _ _ _ _ _ _ us hl => match us, hl with | [_], _ => rfl) fun cdv A outer s H E _ G hr => by
    have tk := takesE_of (P := P) (w := w) (K := K) (mg := mg) (base := base) (N := ["points", "found", "point"]) (qual := "corners_of") (scope := defScope (top 38)) (f := f) (cd := cdv) (A := A) (outer := outer) (s := s) (H := H) (E := E)
    have hx := passesE_of tk
    have hp := passesO_of (CX := L2.CX P w) (P := P) (w := w) (K := K) (mg := mg) (base := base) (N := ["points", "found", "point"]) (qual := "corners_of") (scope := defScope (top 38)) (f := f) (cd := cdv) (A := A) (outer := outer) (s := s) (H := H) (E := E)
    exact (dss_cons (O1 := [1]) (ds_setF (O' := [1]) 1 sc_corners_of.nd (df_lst da_nil))
      (dss_cons (O1 := [1]) (ds_for hp (di_list (de_var 0)) (dg_name 2 sc_corners_of.nd) (fun _ =>
      (dss_cons (O1 := [1]) (ds_while (n := (fuLen 1)) hp (dt_bool (dw_and (dt_cmp dop_ge (de_lenO 1 g.len_) de_int) (dw_and1 (dt_cmp dop_ge (de_call f_way_turn (hr.mono (by decide)) hx (da_cons (de_ixO 1 (de_un dun_neg de_int)) (da_cons (de_ixO 1 (de_un dun_neg de_int)) (da_cons (de_var 2) da_nil)))) de_int))))
      (dss_one (ds_setF (O' := [1]) 1 sc_corners_of.nd (df_sliceO 1 do_none (do_some (de_un dun_neg de_int))))))
      (dss_one (ds_append 1 (de_var 2))))))
      (dss_less (O1 := []) (by decide) (dss_one (ds_ret (de_var 1))))))
theorem sc_check_share : FnScope ["value"] ["value"] (defScope (top 42)) := ⟨rfl, rfl, rfl, by decide +kernel, rfl, by decide +kernel, by decide +kernel⟩
theorem ok_check_share {P : Program} {w : World} {K : PySem.W.Frag} {mg : Str → Option Value} {base : Heap} {f : Addr} {fd : FuncData} {cls : Nat → Addr} (F : FunD K "check_share" "check_share" (defArgs (top 42)) (defBody (top 42)) (defScope (top 42)) [] [] f fd) (hm : mg "check_share" = some (.ref f)) (g : Free mg) (f_is_int : FnP P w K mg base cls 1 "is_int" 3 m_is_int) (f_common : FnP P w K mg base cls 1 "common" 2 m_common) (x_BadNumber : ExcF K mg cls 1 "BadNumber") :
    FnP P w K mg base cls 2 "check_share" 1 m_check_share :=
  fn_pure (k := 1) F sc_check_share hm rfl (F.bindsN fun _ _ _ _ _ _ us hl => match us, hl with | [_], _ => rfl) fun cdv A outer s H E _ G hr => by
    have tk := takesE_of (P := P) (w := w) (K := K) (mg := mg) (base := base) (N := ["value"]) (qual := "check_share") (scope := defScope (top 42)) (f := f) (cd := cdv) (A := A) (outer := outer) (s := s) (H := H) (E := E)
    have hx := passesE_of tk
    have hp := passesO_of (CX := L2.CX P w) (P := P) (w := w) (K := K) (mg := mg) (base := base) (N := ["value"]) (qual := "check_share") (scope := defScope (top 42)) (f := f) (cd := cdv) (A := A) (outer := outer) (s := s) (H := H) (E := E)
    exact (dss_cons (O1 := []) (ds_if (dt_bool (dw_or (dt_not (dt_val (de_isi tyOk_tuple g.isinstance_ g.tuple_ (de_var 0)))) (dw_or (dt_cmp (dop_ne hr.units) (de_callB dc_len g.len_ (da_cons (de_var 0) da_nil)) de_int) (dw_or1 (dt_not (dt_val (de_call f_is_int (hr.mono (by decide)) hx (da_cons (de_ix (de_var 0) de_int) (da_cons de_int (da_cons de_int da_nil))))))))))
      (dss_one (ds_raise tk (x_BadNumber.c)))
      dss_nil)
      (dss_one (ds_if (dt_bool (dw_or (dt_not (dt_val (de_call f_is_int (hr.mono (by decide)) hx (da_cons (de_ix (de_var 0) de_int) (da_cons de_int (da_cons (de_ix (de_var 0) de_int) da_nil)))))) (dw_or1 (dt_cmp (dop_ne hr.units) (de_call f_common (hr.mono (by decide)) hx (da_cons (de_ix (de_var 0) de_int) (da_cons (de_ix (de_var 0) de_int) da_nil))) de_int))))
      (dss_one (ds_raise tk (x_BadNumber.c)))
      dss_nil)))
theorem sc_levels : FnScope ["things", "found", "before", "score", "now"] ["things"] (defScope (top 51)) := ⟨rfl, rfl, rfl, by decide +kernel, rfl, by decide +kernel, by decide +kernel⟩
theorem ok_levels {P : Program} {w : World} {K : PySem.W.Frag} {mg : Str → Option Value} {base : Heap} {f : Addr} {fd : FuncData} {cls : Nat → Addr} (F : FunD K "levels" "levels" (defArgs (top 51)) (defBody (top 51)) (defScope (top 51)) [] [] f fd) (hm : mg "levels" = some (.ref f)) (g : Free mg) (f_scores_of : FnP P w K mg base cls 1 "scores_of" 1 m_scores_of) (f_counts : FnP P w K mg base cls 1 "counts" 2 m_counts) :
    FnP P w K mg base cls 2 "levels" 1 m_levels :=
  fn_pure (k := 1) F sc_levels hm rfl (F.bindsN fun _ _ _ _ _ _ us hl => match us, hl with | [_], _ => rfl) fun cdv A outer s H E _ G hr => by
    have tk := takesE_of (P := P) (w := w) (K := K) (mg := mg) (base := base) (N := ["things", "found", "before", "score", "now"]) (qual := "levels") (scope := defScope (top 51)) (f := f) (cd := cdv) (A := A) (outer := outer) (s := s) (H := H) (E := E)
    have hx := passesE_of tk
    have hp := passesO_of (CX := L2.CX P w) (P := P) (w := w) (K := K) (mg := mg) (base := base) (N := ["things", "found", "before", "score", "now"]) (qual := "levels") (scope := defScope (top 51)) (f := f) (cd := cdv) (A := A) (outer := outer) (s := s) (H := H) (E := E)
    exact (dss_cons (O1 := [1]) (ds_setF (O' := [1]) 1 sc_levels.nd (df_lst da_nil))
      (dss_cons (O1 := [1]) (ds_set 2 sc_levels.nd (de_tup (da_cons de_int (da_cons de_int da_nil))))
      (dss_cons (O1 := [1]) (ds_for hp (di_list (de_call f_scores_of (hr.mono (by decide)) hx (da_cons (de_var 0) da_nil))) (dg_name 3 sc_levels.nd) (fun _ =>
      (dss_cons (O1 := [1]) (ds_set 4 sc_levels.nd (de_call f_counts (hr.mono (by decide)) hx (da_cons (de_var 0) (da_cons (de_var 3) da_nil))))
      (dss_cons (O1 := [1]) (ds_append 1 (de_lst (da_cons (de_var 3) (da_cons (de_var 3) (da_cons (de_op dop_sub (de_ix (de_var 4) de_int) (de_ix (de_var 2) de_int)) (da_cons (de_op dop_sub (de_ix (de_var 4) de_int) (de_ix (de_var 2) de_int)) da_nil))))))
      (dss_one (ds_set 2 sc_levels.nd (de_var 4)))))))
      (dss_less (O1 := []) (by decide) (dss_one (ds_ret (de_var 1)))))))
theorem sc_check_numbers : FnScope ["sound", "faulty"] ["sound", "faulty"] (defScope (top 63)) := ⟨rfl, rfl, rfl, by decide +kernel, rfl, by decide +kernel, by decide +kernel⟩
theorem ok_check_numbers {P : Program} {w : World} {K : PySem.W.Frag} {mg : Str → Option Value} {base : Heap} {f : Addr} {fd : FuncData} {cls : Nat → Addr} (F : FunD K "check_numbers" "check_numbers" (defArgs (top 63)) (defBody (top 63)) (defScope (top 63)) [] [] f fd) (hm : mg "check_numbers" = some (.ref f)) (g : Free mg) (f_is_int : FnP P w K mg base cls 1 "is_int" 3 m_is_int) {t_MOST_EACH : Tok} (c_MOST_EACH : mg "MOST_EACH" = some (.int 4 t_MOST_EACH)) (x_BadNumber : ExcF K mg cls 1 "BadNumber") :
    FnP P w K mg base cls 2 "check_numbers" 2 m_check_numbers :=
  fn_pure (k := 1) F sc_check_numbers hm rfl (F.bindsN fun _ _ _ _ _ _ us hl => match us, hl with | [_, _], _ => rfl) fun cdv A outer s H E _ G hr => by
    have tk := takesE_of (P := P) (w := w) (K := K) (mg := mg) (base := base) (N := ["sound", "faulty"]) (qual := "check_numbers") (scope := defScope (top 63)) (f := f) (cd := cdv) (A := A) (outer := outer) (s := s) (H := H) (E := E)
    have hx := passesE_of tk
    have hp := passesO_of (CX := L2.CX P w) (P := P) (w := w) (K := K) (mg := mg) (base := base) (N := ["sound", "faulty"]) (qual := "check_numbers") (scope := defScope (top 63)) (f := f) (cd := cdv) (A := A) (outer := outer) (s := s) (H := H) (E := E)
    exact (dss_cons (O1 := []) (ds_if (dt_bool (dw_or (dt_not (dt_val (de_call f_is_int (hr.mono (by decide)) hx (da_cons (de_var 0) (da_cons de_int (da_cons (de_gint c_MOST_EACH) da_nil)))))) (dw_or1 (dt_not (dt_val (de_call f_is_int (hr.mono (by decide)) hx (da_cons (de_var 1) (da_cons de_int (da_cons (de_gint c_MOST_EACH) da_nil)))))))))
      (dss_one (ds_raise tk (x_BadNumber.c)))
      dss_nil)
      (dss_one (ds_if (dt_cmp (dop_eq hr.units) (de_op dop_add (de_var 0) (de_var 1)) de_int)
      (dss_one (ds_raise tk (x_BadNumber.c)))
      dss_nil)))
theorem sc_is_things : FnScope ["value", "thing"] ["value"] (defScope (top 11)) := ⟨rfl, rfl, rfl, by decide +kernel, rfl, by decide +kernel, by decide +kernel⟩
theorem ok_is_things {P : Program} {w : World} {K : PySem.W.Frag} {mg : Str → Option Value} {base : Heap} {f : Addr} {fd : FuncData} {cls : Nat → Addr} (F : FunD K "is_things" "is_things" (defArgs (top 11)) (defBody (top 11)) (defScope (top 11)) [] [] f fd) (hm : mg "is_things" = some (.ref f)) (g : Free mg) (f_is_thing : FnP P w K mg base cls 2 "is_thing" 1 m_is_thing) {t_MOST_THINGS : Tok} (c_MOST_THINGS : mg "MOST_THINGS" = some (.int 12 t_MOST_THINGS)) :
    FnP P w K mg base cls 3 "is_things" 1 m_is_things :=
  fn_pure (k := 2) F sc_is_things hm rfl (F.bindsN fun _ _ _ _ _ _ us hl => match us, hl with | [_], _ => rfl) fun cdv A outer s H E _ G hr => by
    have tk := takesE_of (P := P) (w := w) (K := K) (mg := mg) (base := base) (N := ["value", "thing"]) (qual := "is_things") (scope := defScope (top 11)) (f := f) (cd := cdv) (A := A) (outer := outer) (s := s) (H := H) (E := E)
    have hx := passesE_of tk
    have hp := passesO_of (CX := L2.CX P w) (P := P) (w := w) (K := K) (mg := mg) (base := base) (N := ["value", "thing"]) (qual := "is_things") (scope := defScope (top 11)) (f := f) (cd := cdv) (A := A) (outer := outer) (s := s) (H := H) (E := E)
    exact (dss_cons (O1 := []) (ds_if (dt_bool (dw_or (dt_not (dt_val (de_isi tyOk_list g.isinstance_ g.list_ (de_var 0)))) (dw_or1 (dt_not (dt_chain dop_le dop_le de_int (de_callB dc_len g.len_ (da_cons (de_var 0) da_nil)) (de_gint c_MOST_THINGS))))))
      (dss_one (ds_ret de_bl))
      dss_nil)
      (dss_one (ds_ret (de_callB (dc_all rfl) g.all_ (da_cons (de_lc [("thing", 1)] sc_is_things.nd (di_list (de_var 0)) (by rfl) (fun _ _ _ _ _ => (dg_name 1 sc_is_things.nd)) (fun _ _ _ _ _ => dts_nil) (fun _ _ _ _ _ => (de_call f_is_thing (hr.mono (by decide)) passL (da_cons (de_var 1) da_nil)))) da_nil)))))
theorem sc_check_points : FnScope ["value"] ["value"] (defScope (top 16)) := ⟨rfl, rfl, rfl, by decide +kernel, rfl, by decide +kernel, by decide +kernel⟩
theorem ok_check_points {P : Program} {w : World} {K : PySem.W.Frag} {mg : Str → Option Value} {base : Heap} {f : Addr} {fd : FuncData} {cls : Nat → Addr} (F : FunD K "check_points" "check_points" (defArgs (top 16)) (defBody (top 16)) (defScope (top 16)) [] [] f fd) (hm : mg "check_points" = some (.ref f)) (g : Free mg) (f_is_points : FnP P w K mg base cls 2 "is_points" 1 m_is_points) (x_BadPoints : ExcF K mg cls 2 "BadPoints") :
    FnP P w K mg base cls 3 "check_points" 1 m_check_points :=
  fn_pure (k := 2) F sc_check_points hm rfl (F.bindsN fun _ _ _ _ _ _ us hl => match us, hl with | [_], _ => rfl) fun cdv A outer s H E _ G hr => by
    have tk := takesE_of (P := P) (w := w) (K := K) (mg := mg) (base := base) (N := ["value"]) (qual := "check_points") (scope := defScope (top 16)) (f := f) (cd := cdv) (A := A) (outer := outer) (s := s) (H := H) (E := E)
    have hx := passesE_of tk
    have hp := passesO_of (CX := L2.CX P w) (P := P) (w := w) (K := K) (mg := mg) (base := base) (N := ["value"]) (qual := "check_points") (scope := defScope (top 16)) (f := f) (cd := cdv) (A := A) (outer := outer) (s := s) (H := H) (E := E)
    exact (dss_one (ds_if (dt_not (dt_val (de_call f_is_points (hr.mono (by decide)) hx (da_cons (de_var 0) da_nil))))
      (dss_one (ds_raise tk (x_BadPoints.c)))
      dss_nil))
theorem sc_plus : FnScope ["one", "other"] ["one", "other"] (defScope (top 20)) := ⟨rfl, rfl, rfl, by decide +kernel, rfl, by decide +kernel, by decide +kernel⟩
theorem ok_plus {P : Program} {w : World} {K : PySem.W.Frag} {mg : Str → Option Value} {base : Heap} {f : Addr} {fd : FuncData} {cls : Nat → Addr} (F : FunD K "plus" "plus" (defArgs (top 20)) (defBody (top 20)) (defScope (top 20)) [] [] f fd) (hm : mg "plus" = some (.ref f)) (g : Free mg) (f_lowest : FnP P w K mg base cls 2 "lowest" 2 m_lowest) :
    FnP P w K mg base cls 3 "plus" 2 m_plus :=
  fn_pure (k := 2) F sc_plus hm rfl (F.bindsN fun _ _ _ _ _ _ us hl => match us, hl with | [_, _], _ => rfl) fun cdv A outer s H E _ G hr => by
    have tk := takesE_of (P := P) (w := w) (K := K) (mg := mg) (base := base) (N := ["one", "other"]) (qual := "plus") (scope := defScope (top 20)) (f := f) (cd := cdv) (A := A) (outer := outer) (s := s) (H := H) (E := E)
    have hx := passesE_of tk
    have hp := passesO_of (CX := L2.CX P w) (P := P) (w := w) (K := K) (mg := mg) (base := base) (N := ["one", "other"]) (qual := "plus") (scope := defScope (top 20)) (f := f) (cd := cdv) (A := A) (outer := outer) (s := s) (H := H) (E := E)
    exact (dss_one (ds_ret (de_call f_lowest (hr.mono (by decide)) hx (da_cons (de_op dop_add (de_op dop_mul (de_ix (de_var 0) de_int) (de_ix (de_var 1) de_int)) (de_op dop_mul (de_ix (de_var 1) de_int) (de_ix (de_var 0) de_int))) (da_cons (de_op dop_mul (de_ix (de_var 0) de_int) (de_ix (de_var 1) de_int)) da_nil)))))
theorem sc_product : FnScope ["one", "other"] ["one", "other"] (defScope (top 21)) := ⟨rfl, rfl, rfl, by decide +kernel, rfl, by decide +kernel, by decide +kernel⟩
theorem ok_product {P : Program} {w : World} {K : PySem.W.Frag} {mg : Str → Option Value} {base : Heap} {f : Addr} {fd : FuncData} {cls : Nat → Addr} (F : FunD K "product" "product" (defArgs (top 21)) (defBody (top 21)) (defScope (top 21)) [] [] f fd) (hm : mg "product" = some (.ref f)) (g : Free mg) (f_lowest : FnP P w K mg base cls 2 "lowest" 2 m_lowest) :
    FnP P w K mg base cls 3 "product" 2 m_product :=
  fn_pure (k := 2) F sc_product hm rfl (F.bindsN fun _ _ _ _ _ _ us hl => match us, hl with | [_, _], _ => rfl) fun cdv A outer s H E _ G hr => by
    have tk := takesE_of (P := P) (w := w) (K := K) (mg := mg) (base := base) (N := ["one", "other"]) (qual := "product") (scope := defScope (top 21)) (f := f) (cd := cdv) (A := A) (outer := outer) (s := s) (H := H) (E := E)
    have hx := passesE_of tk
    have hp := passesO_of (CX := L2.CX P w) (P := P) (w := w) (K := K) (mg := mg) (base := base) (N := ["one", "other"]) (qual := "product") (scope := defScope (top 21)) (f := f) (cd := cdv) (A := A) (outer := outer) (s := s) (H := H) (E := E)
    exact (dss_one (ds_ret (de_call f_lowest (hr.mono (by decide)) hx (da_cons (de_op dop_mul (de_ix (de_var 0) de_int) (de_ix (de_var 1) de_int)) (da_cons (de_op dop_mul (de_ix (de_var 0) de_int) (de_ix (de_var 1) de_int)) da_nil)))))
theorem sc_check_mean : FnScope ["value", "most"] ["value", "most"] (defScope (top 24)) := ⟨rfl, rfl, rfl, by decide +kernel, rfl, by decide +kernel, by decide +kernel⟩
theorem ok_check_mean {P : Program} {w : World} {K : PySem.W.Frag} {mg : Str → Option Value} {base : Heap} {f : Addr} {fd : FuncData} {cls : Nat → Addr} (F : FunD K "check_mean" "check_mean" (defArgs (top 24)) (defBody (top 24)) (defScope (top 24)) [] [] f fd) (hm : mg "check_mean" = some (.ref f)) (g : Free mg) (f_is_mean : FnP P w K mg base cls 2 "is_mean" 2 m_is_mean) (x_BadNumber : ExcF K mg cls 1 "BadNumber") :
    FnP P w K mg base cls 3 "check_mean" 2 m_check_mean :=
  fn_pure (k := 2) F sc_check_mean hm rfl (F.bindsN fun _ _ _ _ _ _ us hl => match us, hl with | [_, _], _ => rfl) fun cdv A outer s H E _ G hr => by
    have tk := takesE_of (P := P) (w := w) (K := K) (mg := mg) (base := base) (N := ["value", "most"]) (qual := "check_mean") (scope := defScope (top 24)) (f := f) (cd := cdv) (A := A) (outer := outer) (s := s) (H := H) (E := E)
    have hx := passesE_of tk
    have hp := passesO_of (CX := L2.CX P w) (P := P) (w := w) (K := K) (mg := mg) (base := base) (N := ["value", "most"]) (qual := "check_mean") (scope := defScope (top 24)) (f := f) (cd := cdv) (A := A) (outer := outer) (s := s) (H := H) (E := E)
    exact (dss_one (ds_if (dt_not (dt_val (de_call f_is_mean (hr.mono (by decide)) hx (da_cons (de_var 0) (da_cons (de_var 1) da_nil)))))
      (dss_one (ds_raise tk (x_BadNumber.c)))
      dss_nil))
theorem sc_height_of : FnScope ["corners", "place", "best", "one", "other", "wide", "height", "top"] ["corners", "place"] (defScope (top 40)) := ⟨rfl, rfl, rfl, by decide +kernel, rfl, by decide +kernel, by decide +kernel⟩
theorem ok_height_of {P : Program} {w : World} {K : PySem.W.Frag} {mg : Str → Option Value} {base : Heap} {f : Addr} {fd : FuncData} {cls : Nat → Addr} (F : FunD K "height_of" "height_of" (defArgs (top 40)) (defBody (top 40)) (defScope (top 40)) [] [] f fd) (hm : mg "height_of" = some (.ref f)) (g : Free mg) (f_lowest : FnP P w K mg base cls 2 "lowest" 2 m_lowest) (f_less : FnP P w K mg base cls 1 "less" 2 m_less) :
    FnP P w K mg base cls 3 "height_of" 2 m_height_of :=
  fn_pure (k := 2) F sc_height_of hm rfl (F.bindsN fun _ _ _ _ _ _ us hl => match us, hl with | [_, _], _ => rfl) fun cdv A outer s H E _ G hr => by
    have tk := takesE_of (P := P) (w := w) (K := K) (mg := mg) (base := base) (N := ["corners", "place", "best", "one", "other", "wide", "height", "top"]) (qual := "height_of") (scope := defScope (top 40)) (f := f) (cd := cdv) (A := A) (outer := outer) (s := s) (H := H) (E := E)
    have hx := passesE_of tk
    have hp := passesO_of (CX := L2.CX P w) (P := P) (w := w) (K := K) (mg := mg) (base := base) (N := ["corners", "place", "best", "one", "other", "wide", "height", "top"]) (qual := "height_of") (scope := defScope (top 40)) (f := f) (cd := cdv) (A := A) (outer := outer) (s := s) (H := H) (E := E)
    exact (dss_cons (O1 := []) (ds_set 2 sc_height_of.nd (de_tup (da_cons de_int (da_cons de_int da_nil))))
      (dss_cons (O1 := []) (ds_for hp (di_zip g.zip_ (da_cons (de_var 0) (da_cons (de_slice (de_var 0) (do_some de_int) do_none) da_nil))) (dg_tup (bLen_cons (bLen_cons bLen_nil)) (dgs_cons (dg_name 3 sc_height_of.nd) (dgs_cons (dg_name 4 sc_height_of.nd) dgs_nil))) (fun _ =>
      (dss_one (ds_if (dt_chain dop_le dop_le (de_op dop_mul (de_ix (de_var 3) de_int) (de_ix (de_var 1) de_int)) (de_ix (de_var 1) de_int) (de_op dop_mul (de_ix (de_var 4) de_int) (de_ix (de_var 1) de_int)))
      (dss_cons (O1 := []) (ds_set 5 sc_height_of.nd (de_op dop_sub (de_ix (de_var 4) de_int) (de_ix (de_var 3) de_int)))
      (dss_cons (O1 := []) (ds_if (dt_cmp (dop_eq hr.units) (de_var 5) de_int)
      (dss_one (ds_set 6 sc_height_of.nd (de_tup (da_cons (de_ix (de_var 4) de_int) (da_cons de_int da_nil)))))
      (dss_cons (O1 := []) (ds_set 7 sc_height_of.nd (de_op dop_add (de_op dop_mul (de_op dop_mul (de_ix (de_var 3) de_int) (de_var 5)) (de_ix (de_var 1) de_int)) (de_op dop_mul (de_op dop_sub (de_ix (de_var 1) de_int) (de_op dop_mul (de_ix (de_var 3) de_int) (de_ix (de_var 1) de_int))) (de_op dop_sub (de_ix (de_var 4) de_int) (de_ix (de_var 3) de_int)))))
      (dss_one (ds_set 6 sc_height_of.nd (de_call f_lowest (hr.mono (by decide)) hx (da_cons (de_var 7) (da_cons (de_op dop_mul (de_var 5) (de_ix (de_var 1) de_int)) da_nil)))))))
      (dss_one (ds_set 2 sc_height_of.nd (de_if (dt_val (de_call f_less (hr.mono (by decide)) hx (da_cons (de_var 2) (da_cons (de_var 6) da_nil)))) (de_var 6) (de_var 2))))))
      dss_nil))))
      (dss_one (ds_ret (de_var 2)))))
theorem sc_check_costs : FnScope ["false_cost", "miss_cost"] ["false_cost", "miss_cost"] (defScope (top 47)) := ⟨rfl, rfl, rfl, by decide +kernel, rfl, by decide +kernel, by decide +kernel⟩
theorem ok_check_costs {P : Program} {w : World} {K : PySem.W.Frag} {mg : Str → Option Value} {base : Heap} {f : Addr} {fd : FuncData} {cls : Nat → Addr} (F : FunD K "check_costs" "check_costs" (defArgs (top 47)) (defBody (top 47)) (defScope (top 47)) [] [] f fd) (hm : mg "check_costs" = some (.ref f)) (g : Free mg) (f_check_cost : FnP P w K mg base cls 2 "check_cost" 1 m_check_cost) :
    FnP P w K mg base cls 3 "check_costs" 2 m_check_costs :=
  fn_pure (k := 2) F sc_check_costs hm rfl (F.bindsN fun _ _ _ _ _ _ us hl => match us, hl with | [_, _], _ => rfl) fun cdv A outer s H E _ G hr => by
    have tk := takesE_of (P := P) (w := w) (K := K) (mg := mg) (base := base) (N := ["false_cost", "miss_cost"]) (qual := "check_costs") (scope := defScope (top 47)) (f := f) (cd := cdv) (A := A) (outer := outer) (s := s) (H := H) (E := E)
    have hx := passesE_of tk
    have hp := passesO_of (CX := L2.CX P w) (P := P) (w := w) (K := K) (mg := mg) (base := base) (N := ["false_cost", "miss_cost"]) (qual := "check_costs") (scope := defScope (top 47)) (f := f) (cd := cdv) (A := A) (outer := outer) (s := s) (H := H) (E := E)
    exact (dss_cons (O1 := []) (ds_expr (de_call f_check_cost (hr.mono (by decide)) hx (da_cons (de_var 0) da_nil)))
      (dss_one (ds_expr (de_call f_check_cost (hr.mono (by decide)) hx (da_cons (de_var 1) da_nil)))))
theorem sc_pooled : FnScope ["things", "found", "level"] ["things"] (defScope (top 54)) := ⟨rfl, rfl, rfl, by decide +kernel, rfl, by decide +kernel, by decide +kernel⟩
theorem ok_pooled {P : Program} {w : World} {K : PySem.W.Frag} {mg : Str → Option Value} {base : Heap} {f : Addr} {fd : FuncData} {cls : Nat → Addr} (F : FunD K "pooled" "pooled" (defArgs (top 54)) (defBody (top 54)) (defScope (top 54)) [] [] f fd) (hm : mg "pooled" = some (.ref f)) (g : Free mg) (f_levels : FnP P w K mg base cls 2 "levels" 1 m_levels) (f_falls : FnP P w K mg base cls 1 "falls" 2 m_falls) (f_put_together : FnP P w K mg base cls 1 "put_together" 2 m_put_together) :
    FnP P w K mg base cls 3 "pooled" 1 m_pooled :=
  fn_pure (k := 2) F sc_pooled hm rfl (F.bindsN fun _ _ _ _ _ _ us hl => match us, hl with | [_], _ => rfl) fun cdv A outer s H E _ G hr => by
    have tk := takesE_of (P := P) (w := w) (K := K) (mg := mg) (base := base) (N := ["things", "found", "level"]) (qual := "pooled") (scope := defScope (top 54)) (f := f) (cd := cdv) (A := A) (outer := outer) (s := s) (H := H) (E := E)
    have hx := passesE_of tk
    have hp := passesO_of (CX := L2.CX P w) (P := P) (w := w) (K := K) (mg := mg) (base := base) (N := ["things", "found", "level"]) (qual := "pooled") (scope := defScope (top 54)) (f := f) (cd := cdv) (A := A) (outer := outer) (s := s) (H := H) (E := E)
    exact (dss_cons (O1 := [1]) (ds_setF (O' := [1]) 1 sc_pooled.nd (df_lst da_nil))
      (dss_cons (O1 := [1]) (ds_for hp (di_list (de_call f_levels (hr.mono (by decide)) hx (da_cons (de_var 0) da_nil))) (dg_name 2 sc_pooled.nd) (fun _ =>
      (dss_cons (O1 := [1]) (ds_append 1 (de_var 2))
      (dss_one (ds_while (n := (fuLen 1)) hp (dt_bool (dw_and (dt_cmp dop_ge (de_lenO 1 g.len_) de_int) (dw_and1 (dt_not (dt_val (de_call f_falls (hr.mono (by decide)) hx (da_cons (de_ixO 1 (de_un dun_neg de_int)) (da_cons (de_ixO 1 (de_un dun_neg de_int)) da_nil))))))))
      (dss_one (ds_setF (O' := [1]) 1 sc_pooled.nd (df_cat (de_sliceO 1 do_none (do_some (de_un dun_neg de_int))) (de_lst (da_cons (de_call f_put_together (hr.mono (by decide)) hx (da_cons (de_ixO 1 (de_un dun_neg de_int)) (da_cons (de_ixO 1 (de_un dun_neg de_int)) da_nil))) da_nil))))))))))
      (dss_less (O1 := []) (by decide) (dss_one (ds_ret (de_var 1))))))
theorem sc_height : FnScope ["points", "place", "best", "a", "b", "wide", "now"] ["points", "place"] (defScope (top 58)) := ⟨rfl, rfl, rfl, by decide +kernel, rfl, by decide +kernel, by decide +kernel⟩
theorem ok_height {P : Program} {w : World} {K : PySem.W.Frag} {mg : Str → Option Value} {base : Heap} {f : Addr} {fd : FuncData} {cls : Nat → Addr} (F : FunD K "height" "height" (defArgs (top 58)) (defBody (top 58)) (defScope (top 58)) [] [] f fd) (hm : mg "height" = some (.ref f)) (g : Free mg) (f_lowest : FnP P w K mg base cls 2 "lowest" 2 m_lowest) (f_less : FnP P w K mg base cls 1 "less" 2 m_less) :
    FnP P w K mg base cls 3 "height" 2 m_height :=
  fn_pure (k := 2) F sc_height hm rfl (F.bindsN fun _ _ _ _ _ _ us hl => match us, hl with | [_, _], _ => rfl) fun cdv A outer s H E _ G hr => by
    have tk := takesE_of (P := P) (w := w) (K := K) (mg := mg) (base := base) (N := ["points", "place", "best", "a", "b", "wide", "now"]) (qual := "height") (scope := defScope (top 58)) (f := f) (cd := cdv) (A := A) (outer := outer) (s := s) (H := H) (E := E)
    have hx := passesE_of tk
    have hp := passesO_of (CX := L2.CX P w) (P := P) (w := w) (K := K) (mg := mg) (base := base) (N := ["points", "place", "best", "a", "b", "wide", "now"]) (qual := "height") (scope := defScope (top 58)) (f := f) (cd := cdv) (A := A) (outer := outer) (s := s) (H := H) (E := E)
    exact (dss_cons (O1 := []) (ds_set 2 sc_height.nd (de_tup (da_cons de_int (da_cons de_int da_nil))))
      (dss_cons (O1 := []) (ds_for hp (di_zip g.zip_ (da_cons (de_var 0) (da_cons (de_slice (de_var 0) (do_some de_int) do_none) da_nil))) (dg_tup (bLen_cons (bLen_cons bLen_nil)) (dgs_cons (dg_name 3 sc_height.nd) (dgs_cons (dg_name 4 sc_height.nd) dgs_nil))) (fun _ =>
      (dss_one (ds_if (dt_chain dop_le dop_le (de_op dop_mul (de_ix (de_var 3) de_int) (de_ix (de_var 1) de_int)) (de_ix (de_var 1) de_int) (de_op dop_mul (de_ix (de_var 4) de_int) (de_ix (de_var 1) de_int)))
      (dss_cons (O1 := []) (ds_set 5 sc_height.nd (de_op dop_sub (de_ix (de_var 4) de_int) (de_ix (de_var 3) de_int)))
      (dss_cons (O1 := []) (ds_if (dt_cmp (dop_eq hr.units) (de_var 5) de_int)
      (dss_one (ds_set 6 sc_height.nd (de_tup (da_cons (de_ix (de_var 4) de_int) (da_cons de_int da_nil)))))
      (dss_one (ds_set 6 sc_height.nd (de_call f_lowest (hr.mono (by decide)) hx (da_cons (de_op dop_add (de_op dop_mul (de_op dop_mul (de_ix (de_var 3) de_int) (de_var 5)) (de_ix (de_var 1) de_int)) (de_op dop_mul (de_op dop_sub (de_ix (de_var 1) de_int) (de_op dop_mul (de_ix (de_var 3) de_int) (de_ix (de_var 1) de_int))) (de_op dop_sub (de_ix (de_var 4) de_int) (de_ix (de_var 3) de_int)))) (da_cons (de_op dop_mul (de_var 5) (de_ix (de_var 1) de_int)) da_nil))))))
      (dss_one (ds_set 2 sc_height.nd (de_if (dt_val (de_call f_less (hr.mono (by decide)) hx (da_cons (de_var 2) (da_cons (de_var 6) da_nil)))) (de_var 6) (de_var 2))))))
      dss_nil))))
      (dss_one (ds_ret (de_var 2)))))
theorem sc_count_curves : FnScope ["sound", "faulty", "ways", "x", "y", "before", "a", "b"] ["sound", "faulty"] (defScope (top 64)) := ⟨rfl, rfl, rfl, by decide +kernel, rfl, by decide +kernel, by decide +kernel⟩
theorem ok_count_curves {P : Program} {w : World} {K : PySem.W.Frag} {mg : Str → Option Value} {base : Heap} {f : Addr} {fd : FuncData} {cls : Nat → Addr} (F : FunD K "count_curves" "count_curves" (defArgs (top 64)) (defBody (top 64)) (defScope (top 64)) [] [] f fd) (hm : mg "count_curves" = some (.ref f)) (g : Free mg) (f_check_numbers : FnP P w K mg base cls 2 "check_numbers" 2 m_check_numbers) :
    FnP P w K mg base cls 3 "count_curves" 2 m_count_curves :=
  fn_pure (k := 2) F sc_count_curves hm rfl (F.bindsN fun _ _ _ _ _ _ us hl => match us, hl with | [_, _], _ => rfl) fun cdv A outer s H E _ G hr => by
    have tk := takesE_of (P := P) (w := w) (K := K) (mg := mg) (base := base) (N := ["sound", "faulty", "ways", "x", "y", "before", "a", "b"]) (qual := "count_curves") (scope := defScope (top 64)) (f := f) (cd := cdv) (A := A) (outer := outer) (s := s) (H := H) (E := E)
    have hx := passesE_of tk
    have hp := passesO_of (CX := L2.CX P w) (P := P) (w := w) (K := K) (mg := mg) (base := base) (N := ["sound", "faulty", "ways", "x", "y", "before", "a", "b"]) (qual := "count_curves") (scope := defScope (top 64)) (f := f) (cd := cdv) (A := A) (outer := outer) (s := s) (H := H) (E := E)
    exact (dss_cons (O1 := []) (ds_expr (de_call f_check_numbers (hr.mono (by decide)) hx (da_cons (de_var 0) (da_cons (de_var 1) da_nil))))
      (dss_nD 2 sc_count_curves.nd (fun _ =>
      (dss_cons (O1 := []) (ds_for hp (di_range1 g.range_ (da_cons (de_op dop_add (de_var 0) de_int) da_nil)) (dg_name 3 sc_count_curves.nd) (fun _ =>
      (dss_one (ds_for hp (di_range1 g.range_ (da_cons (de_op dop_add (de_var 1) de_int) da_nil)) (dg_name 4 sc_count_curves.nd) (fun _ =>
      (dss_cons (O1 := []) (ds_set 5 sc_count_curves.nd (de_sumW 2 3 4 6 7 (by show 6 < 8; decide) (by show 7 < 8; decide) (pe_lock (pe_callB (cr_sum rfl) rfl g.sum_ (by decide +kernel) (pa_cons (pe_lc (own := [("a", 6), ("b", 7)]) rfl sc_count_curves.nd (pi_keys (pv 2)) (blkOk_by (by rfl)) (fun _ _ _ _ _ => pg_tup rfl (pgs_cons (pg_name (i := 6) sc_count_curves.nd rfl (.inl rfl)) (pgs_cons (pg_name (i := 7) sc_count_curves.nd rfl (.inl rfl)) pgs_nil))) (fun _ _ _ _ _ => pts_one (PW.pt (pw_and (pt_cmpR op_le (pv 6) (pv 3) (nomark _)) (pw_and1 (pt_cmpR op_le (pv 7) (pv 4) (nomark _)))))) (fun _ _ _ _ _ => pe_dget (hu_of hr) (pv 2) (pe_tup (pa_cons (pv 6) (pa_cons (pv 7) pa_nil))) (fun _ _ => rfl)) (fun _ => rfl)) pa_nil)))))
      (dss_one (ds_dput (hu_of hr) (de_var 2) (de_tup (da_cons (de_var 3) (da_cons (de_var 4) da_nil))) (de_if (dt_cmp (dop_ne hr.units) (de_tup (da_cons (de_var 3) (da_cons (de_var 4) da_nil))) (de_tup (da_cons de_int (da_cons de_int da_nil)))) (de_var 5) de_int)))))))))
      (dss_one (ds_ret (de_dget (hu_of hr) (de_var 2) (de_tup (da_cons (de_var 0) (da_cons (de_var 1) da_nil))))))))))
theorem sc_check_things : FnScope ["value"] ["value"] (defScope (top 12)) := ⟨rfl, rfl, rfl, by decide +kernel, rfl, by decide +kernel, by decide +kernel⟩
theorem ok_check_things {P : Program} {w : World} {K : PySem.W.Frag} {mg : Str → Option Value} {base : Heap} {f : Addr} {fd : FuncData} {cls : Nat → Addr} (F : FunD K "check_things" "check_things" (defArgs (top 12)) (defBody (top 12)) (defScope (top 12)) [] [] f fd) (hm : mg "check_things" = some (.ref f)) (g : Free mg) (f_is_things : FnP P w K mg base cls 3 "is_things" 1 m_is_things) (x_BadThings : ExcF K mg cls 0 "BadThings") :
    FnP P w K mg base cls 4 "check_things" 1 m_check_things :=
  fn_pure (k := 3) F sc_check_things hm rfl (F.bindsN fun _ _ _ _ _ _ us hl => match us, hl with | [_], _ => rfl) fun cdv A outer s H E _ G hr => by
    have tk := takesE_of (P := P) (w := w) (K := K) (mg := mg) (base := base) (N := ["value"]) (qual := "check_things") (scope := defScope (top 12)) (f := f) (cd := cdv) (A := A) (outer := outer) (s := s) (H := H) (E := E)
    have hx := passesE_of tk
    have hp := passesO_of (CX := L2.CX P w) (P := P) (w := w) (K := K) (mg := mg) (base := base) (N := ["value"]) (qual := "check_things") (scope := defScope (top 12)) (f := f) (cd := cdv) (A := A) (outer := outer) (s := s) (H := H) (E := E)
    exact (dss_one (ds_if (dt_not (dt_val (de_call f_is_things (hr.mono (by decide)) hx (da_cons (de_var 0) da_nil))))
      (dss_one (ds_raise tk (x_BadThings.c)))
      dss_nil))
theorem sc_mean_point : FnScope ["one", "other", "share", "rest", "k"] ["one", "other", "share"] (defScope (top 43)) := ⟨rfl, rfl, rfl, by decide +kernel, rfl, by decide +kernel, by decide +kernel⟩
theorem ok_mean_point {P : Program} {w : World} {K : PySem.W.Frag} {mg : Str → Option Value} {base : Heap} {f : Addr} {fd : FuncData} {cls : Nat → Addr} (F : FunD K "mean_point" "mean_point" (defArgs (top 43)) (defBody (top 43)) (defScope (top 43)) [] [] f fd) (hm : mg "mean_point" = some (.ref f)) (g : Free mg) (f_plus : FnP P w K mg base cls 3 "plus" 2 m_plus) (f_product : FnP P w K mg base cls 3 "product" 2 m_product) :
    FnP P w K mg base cls 4 "mean_point" 3 m_mean_point :=
  fn_pure (k := 3) F sc_mean_point hm rfl (F.bindsN fun _ _ _ _ _ _ us hl => match us, hl with | [_, _, _], _ => rfl) fun cdv A outer s H E _ G hr => by
    have tk := takesE_of (P := P) (w := w) (K := K) (mg := mg) (base := base) (N := ["one", "other", "share", "rest", "k"]) (qual := "mean_point") (scope := defScope (top 43)) (f := f) (cd := cdv) (A := A) (outer := outer) (s := s) (H := H) (E := E)
    have hx := passesE_of tk
    have hp := passesO_of (CX := L2.CX P w) (P := P) (w := w) (K := K) (mg := mg) (base := base) (N := ["one", "other", "share", "rest", "k"]) (qual := "mean_point") (scope := defScope (top 43)) (f := f) (cd := cdv) (A := A) (outer := outer) (s := s) (H := H) (E := E)
    exact (dss_cons (O1 := []) (ds_set 3 sc_mean_point.nd (de_tup (da_cons (de_op dop_sub (de_ix (de_var 2) de_int) (de_ix (de_var 2) de_int)) (da_cons (de_ix (de_var 2) de_int) da_nil))))
      (dss_one (ds_ret (de_callTy dc_tuple g.tuple_ (da_cons (de_lc [("k", 4)] sc_mean_point.nd (di_tup (de_tup (da_cons de_int (da_cons de_int da_nil)))) (by rfl) (fun _ _ _ _ _ => (dg_name 4 sc_mean_point.nd)) (fun _ _ _ _ _ => dts_nil) (fun _ _ _ _ _ => (de_call f_plus (hr.mono (by decide)) passL (da_cons (de_call f_product (hr.mono (by decide)) passL (da_cons (de_tup (da_cons (de_ix (de_var 0) (de_var 4)) (da_cons de_int da_nil))) (da_cons (de_var 2) da_nil))) (da_cons (de_call f_product (hr.mono (by decide)) passL (da_cons (de_tup (da_cons (de_ix (de_var 1) (de_var 4)) (da_cons de_int da_nil))) (da_cons (de_var 3) da_nil))) da_nil))))) da_nil)))))
theorem sc_check_both : FnScope ["one", "other"] ["one", "other"] (defScope (top 57)) := ⟨rfl, rfl, rfl, by decide +kernel, rfl, by decide +kernel, by decide +kernel⟩
theorem ok_check_both {P : Program} {w : World} {K : PySem.W.Frag} {mg : Str → Option Value} {base : Heap} {f : Addr} {fd : FuncData} {cls : Nat → Addr} (F : FunD K "check_both" "check_both" (defArgs (top 57)) (defBody (top 57)) (defScope (top 57)) [] [] f fd) (hm : mg "check_both" = some (.ref f)) (g : Free mg) (f_check_points : FnP P w K mg base cls 3 "check_points" 1 m_check_points) (x_BadPoints : ExcF K mg cls 2 "BadPoints") :
    FnP P w K mg base cls 4 "check_both" 2 m_check_both :=
  fn_pure (k := 3) F sc_check_both hm rfl (F.bindsN fun _ _ _ _ _ _ us hl => match us, hl with | [_, _], _ => rfl) fun cdv A outer s H E _ G hr => by
    have tk := takesE_of (P := P) (w := w) (K := K) (mg := mg) (base := base) (N := ["one", "other"]) (qual := "check_both") (scope := defScope (top 57)) (f := f) (cd := cdv) (A := A) (outer := outer) (s := s) (H := H) (E := E)
    have hx := passesE_of tk
    have hp := passesO_of (CX := L2.CX P w) (P := P) (w := w) (K := K) (mg := mg) (base := base) (N := ["one", "other"]) (qual := "check_both") (scope := defScope (top 57)) (f := f) (cd := cdv) (A := A) (outer := outer) (s := s) (H := H) (E := E)
    exact (dss_cons (O1 := []) (ds_expr (de_call f_check_points (hr.mono (by decide)) hx (da_cons (de_var 0) da_nil)))
      (dss_cons (O1 := []) (ds_expr (de_call f_check_points (hr.mono (by decide)) hx (da_cons (de_var 1) da_nil)))
      (dss_one (ds_if (dt_cmp (dop_ne hr.units) (de_ix (de_var 0) (de_un dun_neg de_int)) (de_ix (de_var 1) (de_un dun_neg de_int)))
      (dss_one (ds_raise tk (x_BadPoints.c)))
      dss_nil))))
theorem sc_things_with : FnScope ["points", "found", "k", "score", "sound", "faulty"] ["points"] (defScope (top 62)) := ⟨rfl, rfl, rfl, by decide +kernel, rfl, by decide +kernel, by decide +kernel⟩
theorem ok_things_with {P : Program} {w : World} {K : PySem.W.Frag} {mg : Str → Option Value} {base : Heap} {f : Addr} {fd : FuncData} {cls : Nat → Addr} (F : FunD K "things_with" "things_with" (defArgs (top 62)) (defBody (top 62)) (defScope (top 62)) [] [] f fd) (hm : mg "things_with" = some (.ref f)) (g : Free mg) (f_check_points : FnP P w K mg base cls 3 "check_points" 1 m_check_points) :
    FnP P w K mg base cls 4 "things_with" 1 m_things_with :=
  fn_pure (k := 3) F sc_things_with hm rfl (F.bindsN fun _ _ _ _ _ _ us hl => match us, hl with | [_], _ => rfl) fun cdv A outer s H E _ G hr => by
    have tk := takesE_of (P := P) (w := w) (K := K) (mg := mg) (base := base) (N := ["points", "found", "k", "score", "sound", "faulty"]) (qual := "things_with") (scope := defScope (top 62)) (f := f) (cd := cdv) (A := A) (outer := outer) (s := s) (H := H) (E := E)
    have hx := passesE_of tk
    have hp := passesO_of (CX := L2.CX P w) (P := P) (w := w) (K := K) (mg := mg) (base := base) (N := ["points", "found", "k", "score", "sound", "faulty"]) (qual := "things_with") (scope := defScope (top 62)) (f := f) (cd := cdv) (A := A) (outer := outer) (s := s) (H := H) (E := E)
    exact (dss_cons (O1 := []) (ds_expr (de_call f_check_points (hr.mono (by decide)) hx (da_cons (de_var 0) da_nil)))
      (dss_cons (O1 := [1]) (ds_setF (O' := [1]) 1 sc_things_with.nd (df_lst da_nil))
      (dss_cons (O1 := [1]) (ds_for hp (di_range1 g.range_ (da_cons (de_op dop_sub (de_callB dc_len g.len_ (da_cons (de_var 0) da_nil)) de_int) da_nil)) (dg_name 2 sc_things_with.nd) (fun _ =>
      (dss_cons (O1 := [1]) (ds_set 3 sc_things_with.nd (de_op dop_sub (de_op dop_sub (de_callB dc_len g.len_ (da_cons (de_var 0) da_nil)) de_int) (de_var 2)))
      (dss_cons (O1 := [1]) (ds_par 4 5 sc_things_with.nd (da_cons (de_op dop_sub (de_ix (de_ix (de_var 0) (de_op dop_add (de_var 2) de_int)) de_int) (de_ix (de_ix (de_var 0) (de_var 2)) de_int)) (da_cons (de_op dop_sub (de_ix (de_ix (de_var 0) (de_op dop_add (de_var 2) de_int)) de_int) (de_ix (de_ix (de_var 0) (de_var 2)) de_int)) da_nil)))
      (dss_one (ds_augL 1 sc_things_with.nd (de_op dop_add (de_op dop_mul (de_lst (da_cons (de_tup (da_cons (de_var 3) (da_cons de_bl da_nil))) da_nil)) (de_var 4)) (de_op dop_mul (de_lst (da_cons (de_tup (da_cons (de_var 3) (da_cons de_bl da_nil))) da_nil)) (de_var 5)))))))))
      (dss_less (O1 := []) (by decide) (dss_one (ds_ret (de_var 1)))))))
theorem sc_curve : FnScope ["things"] ["things"] (defScope (top 29)) := ⟨rfl, rfl, rfl, by decide +kernel, rfl, by decide +kernel, by decide +kernel⟩
theorem ok_curve {P : Program} {w : World} {K : PySem.W.Frag} {mg : Str → Option Value} {base : Heap} {f : Addr} {fd : FuncData} {cls : Nat → Addr} (F : FunD K "curve" "curve" (defArgs (top 29)) (defBody (top 29)) (defScope (top 29)) [] [] f fd) (hm : mg "curve" = some (.ref f)) (g : Free mg) (f_check_things : FnP P w K mg base cls 4 "check_things" 1 m_check_things) (f_points_of : FnP P w K mg base cls 2 "points_of" 1 m_points_of) :
    FnP P w K mg base cls 5 "curve" 1 m_curve :=
  fn_pure (k := 4) F sc_curve hm rfl (F.bindsN fun _ _ _ _ _ _ us hl => match us, hl with | [_], _ => rfl) fun cdv A outer s H E _ G hr => by
    have tk := takesE_of (P := P) (w := w) (K := K) (mg := mg) (base := base) (N := ["things"]) (qual := "curve") (scope := defScope (top 29)) (f := f) (cd := cdv) (A := A) (outer := outer) (s := s) (H := H) (E := E)
    have hx := passesE_of tk
    have hp := passesO_of (CX := L2.CX P w) (P := P) (w := w) (K := K) (mg := mg) (base := base) (N := ["things"]) (qual := "curve") (scope := defScope (top 29)) (f := f) (cd := cdv) (A := A) (outer := outer) (s := s) (H := H) (E := E)
    exact (dss_cons (O1 := []) (ds_expr (de_call f_check_things (hr.mono (by decide)) hx (da_cons (de_var 0) da_nil)))
      (dss_one (ds_ret (de_call f_points_of (hr.mono (by decide)) hx (da_cons (de_var 0) da_nil)))))
theorem sc_most_true : FnScope ["things", "false", "x", "y"] ["things", "false"] (defScope (top 30)) := ⟨rfl, rfl, rfl, by decide +kernel, rfl, by decide +kernel, by decide +kernel⟩
theorem ok_most_true {P : Program} {w : World} {K : PySem.W.Frag} {mg : Str → Option Value} {base : Heap} {f : Addr} {fd : FuncData} {cls : Nat → Addr} (F : FunD K "most_true" "most_true" (defArgs (top 30)) (defBody (top 30)) (defScope (top 30)) [] [] f fd) (hm : mg "most_true" = some (.ref f)) (g : Free mg) (f_check_things : FnP P w K mg base cls 4 "check_things" 1 m_check_things) (f_is_int : FnP P w K mg base cls 1 "is_int" 3 m_is_int) (f_points_of : FnP P w K mg base cls 2 "points_of" 1 m_points_of) (x_BadNumber : ExcF K mg cls 1 "BadNumber") :
    FnP P w K mg base cls 5 "most_true" 2 m_most_true :=
  fn_pure (k := 4) F sc_most_true hm rfl (F.bindsN fun _ _ _ _ _ _ us hl => match us, hl with | [_, _], _ => rfl) fun cdv A outer s H E _ G hr => by
    have tk := takesE_of (P := P) (w := w) (K := K) (mg := mg) (base := base) (N := ["things", "false", "x", "y"]) (qual := "most_true") (scope := defScope (top 30)) (f := f) (cd := cdv) (A := A) (outer := outer) (s := s) (H := H) (E := E)
    have hx := passesE_of tk
    have hp := passesO_of (CX := L2.CX P w) (P := P) (w := w) (K := K) (mg := mg) (base := base) (N := ["things", "false", "x", "y"]) (qual := "most_true") (scope := defScope (top 30)) (f := f) (cd := cdv) (A := A) (outer := outer) (s := s) (H := H) (E := E)
    exact (dss_cons (O1 := []) (ds_expr (de_call f_check_things (hr.mono (by decide)) hx (da_cons (de_var 0) da_nil)))
      (dss_cons (O1 := []) (ds_if (dt_not (dt_val (de_call f_is_int (hr.mono (by decide)) hx (da_cons (de_var 1) (da_cons de_int (da_cons de_int da_nil))))))
      (dss_one (ds_raise tk (x_BadNumber.c)))
      dss_nil)
      (dss_one (ds_ret (de_callB (dc_max rfl) g.max_ (da_cons (de_lc [("x", 2), ("y", 3)] sc_most_true.nd (di_list (de_call f_points_of (hr.mono (by decide)) hx (da_cons (de_var 0) da_nil))) (by rfl) (fun _ _ _ _ _ => (dg_tup (bLen_cons (bLen_cons bLen_nil)) (dgs_cons (dg_name 2 sc_most_true.nd) (dgs_cons (dg_name 3 sc_most_true.nd) dgs_nil)))) (fun _ _ _ _ _ => (dts_one (dt_cmp dop_le (de_var 2) (de_var 1)))) (fun _ _ _ _ _ => (de_var 3))) da_nil))))))
theorem sc_pair_counts : FnScope ["things"] ["things"] (defScope (top 33)) := ⟨rfl, rfl, rfl, by decide +kernel, rfl, by decide +kernel, by decide +kernel⟩
theorem ok_pair_counts {P : Program} {w : World} {K : PySem.W.Frag} {mg : Str → Option Value} {base : Heap} {f : Addr} {fd : FuncData} {cls : Nat → Addr} (F : FunD K "pair_counts" "pair_counts" (defArgs (top 33)) (defBody (top 33)) (defScope (top 33)) [] [] f fd) (hm : mg "pair_counts" = some (.ref f)) (g : Free mg) (f_check_things : FnP P w K mg base cls 4 "check_things" 1 m_check_things) (f_outcomes : FnP P w K mg base cls 1 "outcomes" 1 m_outcomes) :
    FnP P w K mg base cls 5 "pair_counts" 1 m_pair_counts :=
  fn_pure (k := 4) F sc_pair_counts hm rfl (F.bindsN fun _ _ _ _ _ _ us hl => match us, hl with | [_], _ => rfl) fun cdv A outer s H E _ G hr => by
    have tk := takesE_of (P := P) (w := w) (K := K) (mg := mg) (base := base) (N := ["things"]) (qual := "pair_counts") (scope := defScope (top 33)) (f := f) (cd := cdv) (A := A) (outer := outer) (s := s) (H := H) (E := E)
    have hx := passesE_of tk
    have hp := passesO_of (CX := L2.CX P w) (P := P) (w := w) (K := K) (mg := mg) (base := base) (N := ["things"]) (qual := "pair_counts") (scope := defScope (top 33)) (f := f) (cd := cdv) (A := A) (outer := outer) (s := s) (H := H) (E := E)
    exact (dss_cons (O1 := []) (ds_expr (de_call f_check_things (hr.mono (by decide)) hx (da_cons (de_var 0) da_nil)))
      (dss_one (ds_ret (de_call f_outcomes (hr.mono (by decide)) hx (da_cons (de_var 0) da_nil)))))
theorem sc_area : FnScope ["things", "points", "whole"] ["things"] (defScope (top 35)) := ⟨rfl, rfl, rfl, by decide +kernel, rfl, by decide +kernel, by decide +kernel⟩
theorem ok_area {P : Program} {w : World} {K : PySem.W.Frag} {mg : Str → Option Value} {base : Heap} {f : Addr} {fd : FuncData} {cls : Nat → Addr} (F : FunD K "area" "area" (defArgs (top 35)) (defBody (top 35)) (defScope (top 35)) [] [] f fd) (hm : mg "area" = some (.ref f)) (g : Free mg) (f_check_things : FnP P w K mg base cls 4 "check_things" 1 m_check_things) (f_points_of : FnP P w K mg base cls 2 "points_of" 1 m_points_of) (f_lowest : FnP P w K mg base cls 2 "lowest" 2 m_lowest) (f_double_area : FnP P w K mg base cls 1 "double_area" 1 m_double_area) (x_NotFound : ExcF K mg cls 4 "NotFound") :
    FnP P w K mg base cls 5 "area" 1 m_area :=
  fn_pure (k := 4) F sc_area hm rfl (F.bindsN fun _ _ _ _ _ _ us hl => match us, hl with | [_], _ => rfl) fun cdv A outer s H E _ G hr => by
    have tk := takesE_of (P := P) (w := w) (K := K) (mg := mg) (base := base) (N := ["things", "points", "whole"]) (qual := "area") (scope := defScope (top 35)) (f := f) (cd := cdv) (A := A) (outer := outer) (s := s) (H := H) (E := E)
    have hx := passesE_of tk
    have hp := passesO_of (CX := L2.CX P w) (P := P) (w := w) (K := K) (mg := mg) (base := base) (N := ["things", "points", "whole"]) (qual := "area") (scope := defScope (top 35)) (f := f) (cd := cdv) (A := A) (outer := outer) (s := s) (H := H) (E := E)
    exact (dss_cons (O1 := []) (ds_expr (de_call f_check_things (hr.mono (by decide)) hx (da_cons (de_var 0) da_nil)))
      (dss_cons (O1 := []) (ds_set 1 sc_area.nd (de_call f_points_of (hr.mono (by decide)) hx (da_cons (de_var 0) da_nil)))
      (dss_cons (O1 := []) (ds_set 2 sc_area.nd (de_op dop_mul (de_ix (de_ix (de_var 1) (de_un dun_neg de_int)) de_int) (de_ix (de_ix (de_var 1) (de_un dun_neg de_int)) de_int)))
      (dss_cons (O1 := []) (ds_if (dt_cmp (dop_eq hr.units) (de_var 2) de_int)
      (dss_one (ds_raise tk (x_NotFound.c)))
      dss_nil)
      (dss_one (ds_ret (de_call f_lowest (hr.mono (by decide)) hx (da_cons (de_call f_double_area (hr.mono (by decide)) hx (da_cons (de_var 1) da_nil)) (da_cons (de_op dop_mul de_int (de_var 2)) da_nil)))))))))
theorem sc_hull : FnScope ["things"] ["things"] (defScope (top 39)) := ⟨rfl, rfl, rfl, by decide +kernel, rfl, by decide +kernel, by decide +kernel⟩
theorem ok_hull {P : Program} {w : World} {K : PySem.W.Frag} {mg : Str → Option Value} {base : Heap} {f : Addr} {fd : FuncData} {cls : Nat → Addr} (F : FunD K "hull" "hull" (defArgs (top 39)) (defBody (top 39)) (defScope (top 39)) [] [] f fd) (hm : mg "hull" = some (.ref f)) (g : Free mg) (f_check_things : FnP P w K mg base cls 4 "check_things" 1 m_check_things) (f_corners_of : FnP P w K mg base cls 2 "corners_of" 1 m_corners_of) (f_points_of : FnP P w K mg base cls 2 "points_of" 1 m_points_of) :
    FnP P w K mg base cls 5 "hull" 1 m_hull :=
  fn_pure (k := 4) F sc_hull hm rfl (F.bindsN fun _ _ _ _ _ _ us hl => match us, hl with | [_], _ => rfl) fun cdv A outer s H E _ G hr => by
    have tk := takesE_of (P := P) (w := w) (K := K) (mg := mg) (base := base) (N := ["things"]) (qual := "hull") (scope := defScope (top 39)) (f := f) (cd := cdv) (A := A) (outer := outer) (s := s) (H := H) (E := E)
    have hx := passesE_of tk
    have hp := passesO_of (CX := L2.CX P w) (P := P) (w := w) (K := K) (mg := mg) (base := base) (N := ["things"]) (qual := "hull") (scope := defScope (top 39)) (f := f) (cd := cdv) (A := A) (outer := outer) (s := s) (H := H) (E := E)
    exact (dss_cons (O1 := []) (ds_expr (de_call f_check_things (hr.mono (by decide)) hx (da_cons (de_var 0) da_nil)))
      (dss_one (ds_ret (de_call f_corners_of (hr.mono (by decide)) hx (da_cons (de_call f_points_of (hr.mono (by decide)) hx (da_cons (de_var 0) da_nil)) da_nil)))))
theorem sc_mixed_alarms : FnScope ["things", "first", "second", "share"] ["things", "first", "second", "share"] (defScope (top 44)) := ⟨rfl, rfl, rfl, by decide +kernel, rfl, by decide +kernel, by decide +kernel⟩
theorem ok_mixed_alarms {P : Program} {w : World} {K : PySem.W.Frag} {mg : Str → Option Value} {base : Heap} {f : Addr} {fd : FuncData} {cls : Nat → Addr} (F : FunD K "mixed_alarms" "mixed_alarms" (defArgs (top 44)) (defBody (top 44)) (defScope (top 44)) [] [] f fd) (hm : mg "mixed_alarms" = some (.ref f)) (g : Free mg) (f_check_things : FnP P w K mg base cls 4 "check_things" 1 m_check_things) (f_check_share : FnP P w K mg base cls 2 "check_share" 1 m_check_share) (f_mean_point : FnP P w K mg base cls 4 "mean_point" 3 m_mean_point) (f_counts : FnP P w K mg base cls 1 "counts" 2 m_counts) (f_is_int : FnP P w K mg base cls 1 "is_int" 3 m_is_int) (x_BadNumber : ExcF K mg cls 1 "BadNumber") :
    FnP P w K mg base cls 5 "mixed_alarms" 4 m_mixed_alarms :=
  fn_pure (k := 4) F sc_mixed_alarms hm rfl (F.bindsN fun _ _ _ _ _ _ us hl => match us, hl with | [_, _, _, _], _ => rfl) fun cdv A outer s H E _ G hr => by
    have tk := takesE_of (P := P) (w := w) (K := K) (mg := mg) (base := base) (N := ["things", "first", "second", "share"]) (qual := "mixed_alarms") (scope := defScope (top 44)) (f := f) (cd := cdv) (A := A) (outer := outer) (s := s) (H := H) (E := E)
    have hx := passesE_of tk
    have hp := passesO_of (CX := L2.CX P w) (P := P) (w := w) (K := K) (mg := mg) (base := base) (N := ["things", "first", "second", "share"]) (qual := "mixed_alarms") (scope := defScope (top 44)) (f := f) (cd := cdv) (A := A) (outer := outer) (s := s) (H := H) (E := E)
    exact (dss_cons (O1 := []) (ds_expr (de_call f_check_things (hr.mono (by decide)) hx (da_cons (de_var 0) da_nil)))
      (dss_cons (O1 := []) (ds_if (dt_bool (dw_or (dt_not (dt_val (de_call f_is_int (hr.mono (by decide)) hx (da_cons (de_var 1) (da_cons de_int (da_cons de_int da_nil)))))) (dw_or1 (dt_not (dt_val (de_call f_is_int (hr.mono (by decide)) hx (da_cons (de_var 2) (da_cons de_int (da_cons de_int da_nil)))))))))
      (dss_one (ds_raise tk (x_BadNumber.c)))
      dss_nil)
      (dss_cons (O1 := []) (ds_expr (de_call f_check_share (hr.mono (by decide)) hx (da_cons (de_var 3) da_nil)))
      (dss_one (ds_ret (de_call f_mean_point (hr.mono (by decide)) hx (da_cons (de_call f_counts (hr.mono (by decide)) hx (da_cons (de_var 0) (da_cons (de_var 1) da_nil))) (da_cons (de_call f_counts (hr.mono (by decide)) hx (da_cons (de_var 0) (da_cons (de_var 2) da_nil))) (da_cons (de_var 3) da_nil)))))))))
theorem sc_best_true : FnScope ["things", "false"] ["things", "false"] (defScope (top 45)) := ⟨rfl, rfl, rfl, by decide +kernel, rfl, by decide +kernel, by decide +kernel⟩
theorem ok_best_true {P : Program} {w : World} {K : PySem.W.Frag} {mg : Str → Option Value} {base : Heap} {f : Addr} {fd : FuncData} {cls : Nat → Addr} (F : FunD K "best_true" "best_true" (defArgs (top 45)) (defBody (top 45)) (defScope (top 45)) [] [] f fd) (hm : mg "best_true" = some (.ref f)) (g : Free mg) (f_check_things : FnP P w K mg base cls 4 "check_things" 1 m_check_things) (f_check_mean : FnP P w K mg base cls 3 "check_mean" 2 m_check_mean) (f_height_of : FnP P w K mg base cls 3 "height_of" 2 m_height_of) (f_corners_of : FnP P w K mg base cls 2 "corners_of" 1 m_corners_of) (f_counts : FnP P w K mg base cls 1 "counts" 2 m_counts) (f_points_of : FnP P w K mg base cls 2 "points_of" 1 m_points_of) :
    FnP P w K mg base cls 5 "best_true" 2 m_best_true :=
  fn_pure (k := 4) F sc_best_true hm rfl (F.bindsN fun _ _ _ _ _ _ us hl => match us, hl with | [_, _], _ => rfl) fun cdv A outer s H E _ G hr => by
    have tk := takesE_of (P := P) (w := w) (K := K) (mg := mg) (base := base) (N := ["things", "false"]) (qual := "best_true") (scope := defScope (top 45)) (f := f) (cd := cdv) (A := A) (outer := outer) (s := s) (H := H) (E := E)
    have hx := passesE_of tk
    have hp := passesO_of (CX := L2.CX P w) (P := P) (w := w) (K := K) (mg := mg) (base := base) (N := ["things", "false"]) (qual := "best_true") (scope := defScope (top 45)) (f := f) (cd := cdv) (A := A) (outer := outer) (s := s) (H := H) (E := E)
    exact (dss_cons (O1 := []) (ds_expr (de_call f_check_things (hr.mono (by decide)) hx (da_cons (de_var 0) da_nil)))
      (dss_cons (O1 := []) (ds_expr (de_call f_check_mean (hr.mono (by decide)) hx (da_cons (de_var 1) (da_cons (de_ix (de_call f_counts (hr.mono (by decide)) hx (da_cons (de_var 0) (da_cons de_int da_nil))) de_int) da_nil))))
      (dss_one (ds_ret (de_call f_height_of (hr.mono (by decide)) hx (da_cons (de_call f_corners_of (hr.mono (by decide)) hx (da_cons (de_call f_points_of (hr.mono (by decide)) hx (da_cons (de_var 0) da_nil)) da_nil)) (da_cons (de_var 1) da_nil)))))))
theorem sc_best_points : FnScope ["things", "false_cost", "miss_cost", "all_faulty", "points", "costs", "x", "y", "point", "cost"] ["things", "false_cost", "miss_cost"] (defScope (top 48)) := ⟨rfl, rfl, rfl, by decide +kernel, rfl, by decide +kernel, by decide +kernel⟩
theorem ok_best_points {P : Program} {w : World} {K : PySem.W.Frag} {mg : Str → Option Value} {base : Heap} {f : Addr} {fd : FuncData} {cls : Nat → Addr} (F : FunD K "best_points" "best_points" (defArgs (top 48)) (defBody (top 48)) (defScope (top 48)) [] [] f fd) (hm : mg "best_points" = some (.ref f)) (g : Free mg) (f_check_things : FnP P w K mg base cls 4 "check_things" 1 m_check_things) (f_check_costs : FnP P w K mg base cls 3 "check_costs" 2 m_check_costs) (f_points_of : FnP P w K mg base cls 2 "points_of" 1 m_points_of) (f_counts : FnP P w K mg base cls 1 "counts" 2 m_counts) :
    FnP P w K mg base cls 5 "best_points" 3 m_best_points :=
  fn_pure (k := 4) F sc_best_points hm rfl (F.bindsN fun _ _ _ _ _ _ us hl => match us, hl with | [_, _, _], _ => rfl) fun cdv A outer s H E _ G hr => by
    have tk := takesE_of (P := P) (w := w) (K := K) (mg := mg) (base := base) (N := ["things", "false_cost", "miss_cost", "all_faulty", "points", "costs", "x", "y", "point", "cost"]) (qual := "best_points") (scope := defScope (top 48)) (f := f) (cd := cdv) (A := A) (outer := outer) (s := s) (H := H) (E := E)
    have hx := passesE_of tk
    have hp := passesO_of (CX := L2.CX P w) (P := P) (w := w) (K := K) (mg := mg) (base := base) (N := ["things", "false_cost", "miss_cost", "all_faulty", "points", "costs", "x", "y", "point", "cost"]) (qual := "best_points") (scope := defScope (top 48)) (f := f) (cd := cdv) (A := A) (outer := outer) (s := s) (H := H) (E := E)
    exact (dss_cons (O1 := []) (ds_expr (de_call f_check_things (hr.mono (by decide)) hx (da_cons (de_var 0) da_nil)))
      (dss_cons (O1 := []) (ds_expr (de_call f_check_costs (hr.mono (by decide)) hx (da_cons (de_var 1) (da_cons (de_var 2) da_nil))))
      (dss_cons (O1 := []) (ds_set 3 sc_best_points.nd (de_ix (de_call f_counts (hr.mono (by decide)) hx (da_cons (de_var 0) (da_cons de_int da_nil))) de_int))
      (dss_cons (O1 := []) (ds_set 4 sc_best_points.nd (de_call f_points_of (hr.mono (by decide)) hx (da_cons (de_var 0) da_nil)))
      (dss_cons (O1 := []) (ds_set 5 sc_best_points.nd (de_lc [("x", 6), ("y", 7)] sc_best_points.nd (di_list (de_var 4)) (by rfl) (fun _ _ _ _ _ => (dg_tup (bLen_cons (bLen_cons bLen_nil)) (dgs_cons (dg_name 6 sc_best_points.nd) (dgs_cons (dg_name 7 sc_best_points.nd) dgs_nil)))) (fun _ _ _ _ _ => dts_nil) (fun _ _ _ _ _ => (de_op dop_add (de_op dop_mul (de_var 1) (de_var 6)) (de_op dop_mul (de_var 2) (de_op dop_sub (de_var 3) (de_var 7)))))))
      (dss_one (ds_ret (de_lc [("point", 8), ("cost", 9)] sc_best_points.nd (di_zip g.zip_ (da_cons (de_var 4) (da_cons (de_var 5) da_nil))) (by rfl) (fun _ _ _ _ _ => (dg_tup (bLen_cons (bLen_cons bLen_nil)) (dgs_cons (dg_name 8 sc_best_points.nd) (dgs_cons (dg_name 9 sc_best_points.nd) dgs_nil)))) (fun _ _ _ _ _ => (dts_one (dt_cmp (dop_eq hr.units) (de_var 9) (de_callB (dc_min rfl) g.min_ (da_cons (de_var 5) da_nil))))) (fun _ _ _ _ _ => (de_var 8))))))))))
theorem sc_miss_cost_for : FnScope ["things", "false_cost", "limit", "all_faulty", "miss_cost", "points", "costs", "x", "y", "cost"] ["things", "false_cost", "limit"] (defScope (top 49)) := ⟨rfl, rfl, rfl, by decide +kernel, rfl, by decide +kernel, by decide +kernel⟩
theorem ok_miss_cost_for {P : Program} {w : World} {K : PySem.W.Frag} {mg : Str → Option Value} {base : Heap} {f : Addr} {fd : FuncData} {cls : Nat → Addr} (F : FunD K "miss_cost_for" "miss_cost_for" (defArgs (top 49)) (defBody (top 49)) (defScope (top 49)) [] [] f fd) (hm : mg "miss_cost_for" = some (.ref f)) (g : Free mg) (f_check_things : FnP P w K mg base cls 4 "check_things" 1 m_check_things) (f_check_cost : FnP P w K mg base cls 2 "check_cost" 1 m_check_cost) (f_is_int : FnP P w K mg base cls 1 "is_int" 3 m_is_int) (f_counts : FnP P w K mg base cls 1 "counts" 2 m_counts) (f_points_of : FnP P w K mg base cls 2 "points_of" 1 m_points_of) (x_BadNumber : ExcF K mg cls 1 "BadNumber") :
    FnP P w K mg base cls 5 "miss_cost_for" 3 m_miss_cost_for :=
  fn_pure (k := 4) F sc_miss_cost_for hm rfl (F.bindsN fun _ _ _ _ _ _ us hl => match us, hl with | [_, _, _], _ => rfl) fun cdv A outer s H E _ G hr => by
    have tk := takesE_of (P := P) (w := w) (K := K) (mg := mg) (base := base) (N := ["things", "false_cost", "limit", "all_faulty", "miss_cost", "points", "costs", "x", "y", "cost"]) (qual := "miss_cost_for") (scope := defScope (top 49)) (f := f) (cd := cdv) (A := A) (outer := outer) (s := s) (H := H) (E := E)
    have hx := passesE_of tk
    have hp := passesO_of (CX := L2.CX P w) (P := P) (w := w) (K := K) (mg := mg) (base := base) (N := ["things", "false_cost", "limit", "all_faulty", "miss_cost", "points", "costs", "x", "y", "cost"]) (qual := "miss_cost_for") (scope := defScope (top 49)) (f := f) (cd := cdv) (A := A) (outer := outer) (s := s) (H := H) (E := E)
    exact (dss_cons (O1 := []) (ds_expr (de_call f_check_things (hr.mono (by decide)) hx (da_cons (de_var 0) da_nil)))
      (dss_cons (O1 := []) (ds_expr (de_call f_check_cost (hr.mono (by decide)) hx (da_cons (de_var 1) da_nil)))
      (dss_cons (O1 := []) (ds_if (dt_not (dt_val (de_call f_is_int (hr.mono (by decide)) hx (da_cons (de_var 2) (da_cons de_int (da_cons de_int da_nil))))))
      (dss_one (ds_raise tk (x_BadNumber.c)))
      dss_nil)
      (dss_cons (O1 := []) (ds_set 3 sc_miss_cost_for.nd (de_ix (de_call f_counts (hr.mono (by decide)) hx (da_cons (de_var 0) (da_cons de_int da_nil))) de_int))
      (dss_cons (O1 := []) (ds_for hp (di_range1 g.range_ (da_cons (de_op dop_add (de_var 2) de_int) da_nil)) (dg_name 4 sc_miss_cost_for.nd) (fun _ =>
      (dss_cons (O1 := []) (ds_set 5 sc_miss_cost_for.nd (de_call f_points_of (hr.mono (by decide)) hx (da_cons (de_var 0) da_nil)))
      (dss_cons (O1 := []) (ds_set 6 sc_miss_cost_for.nd (de_lc [("x", 7), ("y", 8)] sc_miss_cost_for.nd (di_list (de_var 5)) (by rfl) (fun _ _ _ _ _ => (dg_tup (bLen_cons (bLen_cons bLen_nil)) (dgs_cons (dg_name 7 sc_miss_cost_for.nd) (dgs_cons (dg_name 8 sc_miss_cost_for.nd) dgs_nil)))) (fun _ _ _ _ _ => dts_nil) (fun _ _ _ _ _ => (de_op dop_add (de_op dop_mul (de_var 1) (de_var 7)) (de_op dop_mul (de_var 4) (de_op dop_sub (de_var 3) (de_var 8)))))))
      (dss_one (ds_if (dt_cmp (dop_eq hr.units) (de_callB (dc_max rfl) g.max_ (da_cons (de_lc [("cost", 9), ("x", 7), ("y", 8)] sc_miss_cost_for.nd (di_zip g.zip_ (da_cons (de_var 5) (da_cons (de_var 6) da_nil))) (by rfl) (fun _ _ _ _ _ => (dg_tup (bLen_cons (bLen_cons bLen_nil)) (dgs_cons (dg_tup (bLen_cons (bLen_cons bLen_nil)) (dgs_cons (dg_name 7 sc_miss_cost_for.nd) (dgs_cons (dg_name 8 sc_miss_cost_for.nd) dgs_nil))) (dgs_cons (dg_name 9 sc_miss_cost_for.nd) dgs_nil)))) (fun _ _ _ _ _ => (dts_one (dt_cmp (dop_eq hr.units) (de_var 9) (de_callB (dc_min rfl) g.min_ (da_cons (de_var 6) da_nil))))) (fun _ _ _ _ _ => (de_var 8))) da_nil)) (de_var 3))
      (dss_one (ds_ret (de_var 4)))
      dss_nil))))))
      (dss_one (ds_ret de_non)))))))
theorem sc_pools : FnScope ["things", "pool"] ["things"] (defScope (top 55)) := ⟨rfl, rfl, rfl, by decide +kernel, rfl, by decide +kernel, by decide +kernel⟩
theorem ok_pools {P : Program} {w : World} {K : PySem.W.Frag} {mg : Str → Option Value} {base : Heap} {f : Addr} {fd : FuncData} {cls : Nat → Addr} (F : FunD K "pools" "pools" (defArgs (top 55)) (defBody (top 55)) (defScope (top 55)) [] [] f fd) (hm : mg "pools" = some (.ref f)) (g : Free mg) (f_check_things : FnP P w K mg base cls 4 "check_things" 1 m_check_things) (f_pooled : FnP P w K mg base cls 3 "pooled" 1 m_pooled) :
    FnP P w K mg base cls 5 "pools" 1 m_pools :=
  fn_pure (k := 4) F sc_pools hm rfl (F.bindsN fun _ _ _ _ _ _ us hl => match us, hl with | [_], _ => rfl) fun cdv A outer s H E _ G hr => by
    have tk := takesE_of (P := P) (w := w) (K := K) (mg := mg) (base := base) (N := ["things", "pool"]) (qual := "pools") (scope := defScope (top 55)) (f := f) (cd := cdv) (A := A) (outer := outer) (s := s) (H := H) (E := E)
    have hx := passesE_of tk
    have hp := passesO_of (CX := L2.CX P w) (P := P) (w := w) (K := K) (mg := mg) (base := base) (N := ["things", "pool"]) (qual := "pools") (scope := defScope (top 55)) (f := f) (cd := cdv) (A := A) (outer := outer) (s := s) (H := H) (E := E)
    exact (dss_cons (O1 := []) (ds_expr (de_call f_check_things (hr.mono (by decide)) hx (da_cons (de_var 0) da_nil)))
      (dss_one (ds_ret (de_lc [("pool", 1)] sc_pools.nd (di_list (de_call f_pooled (hr.mono (by decide)) hx (da_cons (de_var 0) da_nil))) (by rfl) (fun _ _ _ _ _ => (dg_name 1 sc_pools.nd)) (fun _ _ _ _ _ => dts_nil) (fun _ _ _ _ _ => (de_callTy dc_tuple g.tuple_ (da_cons (de_var 1) da_nil)))))))
theorem sc_first_below : FnScope ["one", "other", "x"] ["one", "other"] (defScope (top 59)) := ⟨rfl, rfl, rfl, by decide +kernel, rfl, by decide +kernel, by decide +kernel⟩
theorem ok_first_below {P : Program} {w : World} {K : PySem.W.Frag} {mg : Str → Option Value} {base : Heap} {f : Addr} {fd : FuncData} {cls : Nat → Addr} (F : FunD K "first_below" "first_below" (defArgs (top 59)) (defBody (top 59)) (defScope (top 59)) [] [] f fd) (hm : mg "first_below" = some (.ref f)) (g : Free mg) (f_check_both : FnP P w K mg base cls 4 "check_both" 2 m_check_both) (f_less : FnP P w K mg base cls 1 "less" 2 m_less) (f_height : FnP P w K mg base cls 3 "height" 2 m_height) :
    FnP P w K mg base cls 5 "first_below" 2 m_first_below :=
  fn_pure (k := 4) F sc_first_below hm rfl (F.bindsN fun _ _ _ _ _ _ us hl => match us, hl with | [_, _], _ => rfl) fun cdv A outer s H E _ G hr => by
    have tk := takesE_of (P := P) (w := w) (K := K) (mg := mg) (base := base) (N := ["one", "other", "x"]) (qual := "first_below") (scope := defScope (top 59)) (f := f) (cd := cdv) (A := A) (outer := outer) (s := s) (H := H) (E := E)
    have hx := passesE_of tk
    have hp := passesO_of (CX := L2.CX P w) (P := P) (w := w) (K := K) (mg := mg) (base := base) (N := ["one", "other", "x"]) (qual := "first_below") (scope := defScope (top 59)) (f := f) (cd := cdv) (A := A) (outer := outer) (s := s) (H := H) (E := E)
    exact (dss_cons (O1 := []) (ds_expr (de_call f_check_both (hr.mono (by decide)) hx (da_cons (de_var 0) (da_cons (de_var 1) da_nil))))
      (dss_cons (O1 := []) (ds_for hp (di_range1 g.range_ (da_cons (de_op dop_add (de_ix (de_ix (de_var 0) (de_un dun_neg de_int)) de_int) de_int) da_nil)) (dg_name 2 sc_first_below.nd) (fun _ =>
      (dss_one (ds_if (dt_val (de_call f_less (hr.mono (by decide)) hx (da_cons (de_call f_height (hr.mono (by decide)) hx (da_cons (de_var 0) (da_cons (de_tup (da_cons (de_var 2) (da_cons de_int da_nil))) da_nil))) (da_cons (de_call f_height (hr.mono (by decide)) hx (da_cons (de_var 1) (da_cons (de_tup (da_cons (de_var 2) (da_cons de_int da_nil))) da_nil))) da_nil))))
      (dss_one (ds_ret (de_var 2)))
      dss_nil))))
      (dss_one (ds_ret de_non))))
theorem sc_format_things : FnScope ["things", "score", "faulty"] ["things"] (defScope (top 68)) := ⟨rfl, rfl, rfl, by decide +kernel, rfl, by decide +kernel, by decide +kernel⟩
theorem ok_format_things {P : Program} {w : World} {K : PySem.W.Frag} {mg : Str → Option Value} {base : Heap} {f : Addr} {fd : FuncData} {cls : Nat → Addr} (F : FunD K "format_things" "format_things" (defArgs (top 68)) (defBody (top 68)) (defScope (top 68)) [] [] f fd) (hm : mg "format_things" = some (.ref f)) (g : Free mg) (f_check_things : FnP P w K mg base cls 4 "check_things" 1 m_check_things) :
    FnP P w K mg base cls 5 "format_things" 1 m_format_things :=
  fn_pure (k := 4) F sc_format_things hm rfl (F.bindsN fun _ _ _ _ _ _ us hl => match us, hl with | [_], _ => rfl) fun cdv A outer s H E _ G hr => by
    have tk := takesE_of (P := P) (w := w) (K := K) (mg := mg) (base := base) (N := ["things", "score", "faulty"]) (qual := "format_things") (scope := defScope (top 68)) (f := f) (cd := cdv) (A := A) (outer := outer) (s := s) (H := H) (E := E)
    have hx := passesE_of tk
    have hp := passesO_of (CX := L2.CX P w) (P := P) (w := w) (K := K) (mg := mg) (base := base) (N := ["things", "score", "faulty"]) (qual := "format_things") (scope := defScope (top 68)) (f := f) (cd := cdv) (A := A) (outer := outer) (s := s) (H := H) (E := E)
    exact (dss_cons (O1 := []) (ds_expr (de_call f_check_things (hr.mono (by decide)) hx (da_cons (de_var 0) da_nil)))
      (dss_one (ds_ret (de_txt PySem.F.slot_str_join PySem.F.type_str_join dm_join de_str (de_lc [("score", 1), ("faulty", 2)] sc_format_things.nd (di_list (de_var 0)) (by rfl) (fun _ _ _ _ _ => (dg_tup (bLen_cons (bLen_cons bLen_nil)) (dgs_cons (dg_name 1 sc_format_things.nd) (dgs_cons (dg_name 2 sc_format_things.nd) dgs_nil)))) (fun _ _ _ _ _ => dts_nil) (fun _ _ _ _ _ => (de_op dop_add (de_callTy dc_str g.str_ (da_cons (de_var 1) da_nil)) (de_if (dt_val (de_var 2)) de_str de_str))))))))
theorem sc__law_first : FnScope ["things"] ["things"] (defScope (top 72)) := ⟨rfl, rfl, rfl, by decide +kernel, rfl, by decide +kernel, by decide +kernel⟩
theorem ok__law_first {P : Program} {w : World} {K : PySem.W.Frag} {mg : Str → Option Value} {base : Heap} {f : Addr} {fd : FuncData} {cls : Nat → Addr} (F : FunD K "_law_first" "_law_first" (defArgs (top 72)) (defBody (top 72)) (defScope (top 72)) [] [] f fd) (hm : mg "_law_first" = some (.ref f)) (g : Free mg) (f_curve : FnP P w K mg base cls 5 "curve" 1 m_curve) (f_most_true : FnP P w K mg base cls 5 "most_true" 2 m_most_true) (f_pair_counts : FnP P w K mg base cls 5 "pair_counts" 1 m_pair_counts) (f_hull : FnP P w K mg base cls 5 "hull" 1 m_hull) (f_best_points : FnP P w K mg base cls 5 "best_points" 3 m_best_points) (f_miss_cost_for : FnP P w K mg base cls 5 "miss_cost_for" 3 m_miss_cost_for) (f_best_true : FnP P w K mg base cls 5 "best_true" 2 m_best_true) :
    FnP P w K mg base cls 6 "_law_first" 1 m__law_first :=
  fn_pure (k := 5) F sc__law_first hm rfl (F.bindsN fun _ _ _ _ _ _ us hl => match us, hl with | [_], _ => rfl) fun cdv A outer s H E _ G hr => by
    have tk := takesE_of (P := P) (w := w) (K := K) (mg := mg) (base := base) (N := ["things"]) (qual := "_law_first") (scope := defScope (top 72)) (f := f) (cd := cdv) (A := A) (outer := outer) (s := s) (H := H) (E := E)
    have hx := passesE_of tk
    have hp := passesO_of (CX := L2.CX P w) (P := P) (w := w) (K := K) (mg := mg) (base := base) (N := ["things"]) (qual := "_law_first") (scope := defScope (top 72)) (f := f) (cd := cdv) (A := A) (outer := outer) (s := s) (H := H) (E := E)
    exact (dss_cons (O1 := []) (ds_if (dt_bool (dw_or (dt_cmp (dop_ne hr.units) (de_call f_curve (hr.mono (by decide)) hx (da_cons (de_var 0) da_nil)) (de_lst (da_cons (de_tup (da_cons de_int (da_cons de_int da_nil))) (da_cons (de_tup (da_cons de_int (da_cons de_int da_nil))) (da_cons (de_tup (da_cons de_int (da_cons de_int da_nil))) (da_cons (de_tup (da_cons de_int (da_cons de_int da_nil))) (da_cons (de_tup (da_cons de_int (da_cons de_int da_nil))) da_nil))))))) (dw_or (dt_cmp (dop_ne hr.units) (de_call f_most_true (hr.mono (by decide)) hx (da_cons (de_var 0) (da_cons de_int da_nil))) de_int) (dw_or1 (dt_cmp (dop_ne hr.units) (de_call f_pair_counts (hr.mono (by decide)) hx (da_cons (de_var 0) da_nil)) (de_tup (da_cons de_int (da_cons de_int (da_cons de_int da_nil)))))))))
      (dss_one (ds_ret de_bl))
      dss_nil)
      (dss_cons (O1 := []) (ds_if (dt_bool (dw_or (dt_cmp (dop_ne hr.units) (de_call f_hull (hr.mono (by decide)) hx (da_cons (de_var 0) da_nil)) (de_lst (da_cons (de_tup (da_cons de_int (da_cons de_int da_nil))) (da_cons (de_tup (da_cons de_int (da_cons de_int da_nil))) (da_cons (de_tup (da_cons de_int (da_cons de_int da_nil))) (da_cons (de_tup (da_cons de_int (da_cons de_int da_nil))) da_nil)))))) (dw_or1 (dt_cmp (dop_ne hr.units) (de_call f_best_points (hr.mono (by decide)) hx (da_cons (de_var 0) (da_cons de_int (da_cons de_int da_nil)))) (de_lst (da_cons (de_tup (da_cons de_int (da_cons de_int da_nil))) (da_cons (de_tup (da_cons de_int (da_cons de_int da_nil))) da_nil)))))))
      (dss_one (ds_ret de_bl))
      dss_nil)
      (dss_one (ds_ret (de_and (de_cmp (dop_eq hr.units) (de_call f_miss_cost_for (hr.mono (by decide)) hx (da_cons (de_var 0) (da_cons de_int (da_cons de_int da_nil)))) de_int) (de_one (de_cmp (dop_eq hr.units) (de_call f_best_true (hr.mono (by decide)) hx (da_cons (de_var 0) (da_cons (de_tup (da_cons de_int (da_cons de_int da_nil))) da_nil))) (de_tup (da_cons de_int (da_cons de_int da_nil))))))))))
theorem sc__law_second : FnScope ["things"] ["things"] (defScope (top 73)) := ⟨rfl, rfl, rfl, by decide +kernel, rfl, by decide +kernel, by decide +kernel⟩
theorem ok__law_second {P : Program} {w : World} {K : PySem.W.Frag} {mg : Str → Option Value} {base : Heap} {f : Addr} {fd : FuncData} {cls : Nat → Addr} (F : FunD K "_law_second" "_law_second" (defArgs (top 73)) (defBody (top 73)) (defScope (top 73)) [] [] f fd) (hm : mg "_law_second" = some (.ref f)) (g : Free mg) (f_format_things : FnP P w K mg base cls 5 "format_things" 1 m_format_things) (f_pools : FnP P w K mg base cls 5 "pools" 1 m_pools) (f_first_below : FnP P w K mg base cls 5 "first_below" 2 m_first_below) (f_things_with : FnP P w K mg base cls 4 "things_with" 1 m_things_with) (f_count_curves : FnP P w K mg base cls 3 "count_curves" 2 m_count_curves) :
    FnP P w K mg base cls 6 "_law_second" 1 m__law_second :=
  fn_pure (k := 5) F sc__law_second hm rfl (F.bindsN fun _ _ _ _ _ _ us hl => match us, hl with | [_], _ => rfl) fun cdv A outer s H E _ G hr => by
    have tk := takesE_of (P := P) (w := w) (K := K) (mg := mg) (base := base) (N := ["things"]) (qual := "_law_second") (scope := defScope (top 73)) (f := f) (cd := cdv) (A := A) (outer := outer) (s := s) (H := H) (E := E)
    have hx := passesE_of tk
    have hp := passesO_of (CX := L2.CX P w) (P := P) (w := w) (K := K) (mg := mg) (base := base) (N := ["things"]) (qual := "_law_second") (scope := defScope (top 73)) (f := f) (cd := cdv) (A := A) (outer := outer) (s := s) (H := H) (E := E)
    exact (dss_cons (O1 := []) (ds_if (dt_bool (dw_or (dt_cmp (dop_ne hr.units) (de_call f_pools (hr.mono (by decide)) hx (da_cons (de_var 0) da_nil)) (de_lst (da_cons (de_tup (da_cons de_int (da_cons de_int (da_cons de_int (da_cons de_int da_nil))))) (da_cons (de_tup (da_cons de_int (da_cons de_int (da_cons de_int (da_cons de_int da_nil))))) (da_cons (de_tup (da_cons de_int (da_cons de_int (da_cons de_int (da_cons de_int da_nil))))) da_nil))))) (dw_or1 (dt_cmp (dop_ne hr.units) (de_call f_first_below (hr.mono (by decide)) hx (da_cons (de_lst (da_cons (de_tup (da_cons de_int (da_cons de_int da_nil))) (da_cons (de_tup (da_cons de_int (da_cons de_int da_nil))) da_nil))) (da_cons (de_lst (da_cons (de_tup (da_cons de_int (da_cons de_int da_nil))) (da_cons (de_tup (da_cons de_int (da_cons de_int da_nil))) (da_cons (de_tup (da_cons de_int (da_cons de_int da_nil))) da_nil)))) da_nil))) de_int))))
      (dss_one (ds_ret de_bl))
      dss_nil)
      (dss_cons (O1 := []) (ds_if (dt_bool (dw_or (dt_cmp (dop_ne hr.units) (de_call f_things_with (hr.mono (by decide)) hx (da_cons (de_lst (da_cons (de_tup (da_cons de_int (da_cons de_int da_nil))) (da_cons (de_tup (da_cons de_int (da_cons de_int da_nil))) da_nil))) da_nil)) (de_lst (da_cons (de_tup (da_cons de_int (da_cons de_bl da_nil))) (da_cons (de_tup (da_cons de_int (da_cons de_bl da_nil))) da_nil)))) (dw_or1 (dt_cmp (dop_ne hr.units) (de_call f_count_curves (hr.mono (by decide)) hx (da_cons de_int (da_cons de_int da_nil))) de_int))))
      (dss_one (ds_ret de_bl))
      dss_nil)
      (dss_one (ds_ret (de_cmp (dop_eq hr.units) (de_call f_format_things (hr.mono (by decide)) hx (da_cons (de_lst (da_cons (de_tup (da_cons de_int (da_cons de_bl da_nil))) (da_cons (de_tup (da_cons de_int (da_cons de_bl da_nil))) da_nil))) da_nil)) de_str)))))

theorem sc__law_draw : FnScope ["draws", "limit", "numbers", "at", "cell", "mixed"] ["draws", "limit"] (defScope (top 71)) := ⟨rfl, rfl, rfl, by decide +kernel, rfl, by decide +kernel, by decide +kernel⟩
theorem ok__law_draw {P : Program} {w : World} {K : PySem.W.Frag} {mg : Str → Option Value} {base : Heap} {f : Addr} {fd : FuncData} {cls : Nat → Addr} (F : FunD K "_law_draw" "_law_draw" (defArgs (top 71)) (defBody (top 71)) (defScope (top 71)) [] [] f fd) (hm : mg "_law_draw" = some (.ref f)) (g : Free mg) :
    FnD P w K mg base cls 1 "_law_draw" 2 m__law_draw := by
  refine ⟨f, fd, ["draws", "limit"], F.ok sc__law_draw (fun vs H Q E h => ?_) (fun cdv A outer s H vs Q E hr h => ?_), hm, F.kp, F.bindsN fun _ _ _ _ _ _ us hl => match us, hl with | [_, _], _ => rfl⟩
  · obtain ⟨da, db, G, ds, s, _, r, hl, _⟩ := h
    rw [r.len, hl]; rfl
  · obtain ⟨da, db, G, ds, st, S, r, hl, p⟩ := h
    unfold m__law_draw at p
    split at p
    · rename_i x lim
      split at p
      · rename_i hc
        obtain ⟨h0, h30, hn⟩ := hc
        cases r with
        | cons r1 r2 =>
          cases r2 with
          | cons r2 r3 =>
            cases r3
            obtain ⟨n, rfl⟩ := pd_tok r1
            obtain rfl := (r2.dg (isD_tok rfl)).of_int
            obtain ⟨ns, c⟩ := st
            obtain ⟨nd, hda, hdb⟩ := S.rep
            simp only at hda hdb hn
            have nd' : db ≠ da := Ne.symm nd
            refine ⟨_, pss_cons (ps_set (i := 2) sc__law_draw.nd rfl (.inl rfl) (pe_ix ix_list (pv 0) pe_int (fun _ _ => rfl)))
              (pss_cons (ps_asg (pe_op op_add (pe_ix ix_list (pv 0) pe_int (fun _ _ => rfl)) pe_int) (pg_sub (pv 0) pe_int set_list))
              (pss_cons (ps_set (i := 3) sc__law_draw.nd rfl (.inl rfl) (pe_op op_mod (pe_ix ix_list (pv 0) pe_int (fun _ _ => rfl)) (pe_callB call_len_seq (by rfl) g.len_ PySem.boot_len (pa_cons (pv 2) pa_nil))))
              (pss_cons (ps_set (i := 4) sc__law_draw.nd rfl (.inl rfl) (pe_ix ix_list (pv 2) (pv 3) (fun _ _ => rfl)))
              (pss_cons (ps_if (pt_cmpR op_ge (pv 4) pe_int (nomark _)) (pss_cons (ps_asg (pe_op op_fdiv (pv 4) (pv 1)) (pg_sub (pv 2) (pv 3) set_list)) (pss_one (ps_ret (pe_op op_mod (pv 4) (pv 1))))) pss_nil)
              (pss_cons (ps_set (i := 5) sc__law_draw.nd rfl (.inl rfl) (pe_op op_mod (pe_op op_add (pv 4) (pe_op op_mul pe_int (pe_ix ix_list (pv 0) pe_int (fun _ _ => rfl)))) pe_int))
              (pss_cons (ps_set (i := 5) sc__law_draw.nd rfl (.inl rfl) (pe_op op_mod (pe_op op_pow (pv 5) pe_int) pe_int))
              (pss_one (ps_ret (pe_op op_mod (pe_op op_fdiv (pe_op op_mod (pe_op op_add (pe_op op_mul (pe_op op_fdiv (pv 5) pe_int) pe_int) (pv 5)) pe_int) pe_int) (pv 1)))))))))), ?_⟩
            have hda1 : (upd H da (.lst [.ref db, .int (c + 1)])) da = some (.lst [.ref db, .int (c + 1)]) := upd_same
            have hdb1 : (upd H da (.lst [.ref db, .int (c + 1)])) db = some (.lst (ns.map V.int)) := by rw [upd_ne nd']; exact hdb
            have hix : (ns.map V.int).length = ns.length := List.length_map ..
            have hmp : 0 < (ns.map V.int).length := by rw [hix]; exact hn
            have hpos : (0 : Int) < ((ns.map V.int).length : Int) := by omega
            generalize hi : (c + 1) % ((ns.map V.int).length : Int) = ix at *
            have hat : ixN (ns.map V.int).length ix = some ix.toNat := by rw [← hi]; exact ixN_emod hmp
            have hlt : ix.toNat < ns.length := by
              have h1 : 0 ≤ ix := by rw [← hi]; exact Int.emod_nonneg _ (by omega)
              have h2 : ix < ((ns.map V.int).length : Int) := by rw [← hi]; exact Int.emod_lt_of_pos _ hpos
              omega
            have hgv : ns[ix.toNat]? = some (ns.getD ix.toNat 0) := by rw [List.getD_eq_getElem?_getD, List.getElem?_eq_getElem hlt]; rfl
            generalize hcell : ns.getD ix.toNat 0 = cell at *
            have hget : L2.atI (ns.map V.int) ix = some (.int cell) := by
              unfold L2.atI
              rw [hat]
              show (ns.map V.int)[ix.toNat]? = _
              rw [List.getElem?_map, hgv]
              rfl
            have hdm : drawM lim (ns, c) = if 1000000000000000000 ≤ cell then (cell % lim, (ns.set ix.toNat (cell / lim), c + 1)) else (hashD cell (c + 1) lim, (ns, c + 1)) := by
              unfold drawM
              dsimp only
              rw [← hix, hi, hcell]
            rw [hdm] at p
            -- numbers = draws[0]
            refine ⟨.ref da, rfl, da, _, 0, .ref db, rfl, rfl, SqL.of hda, rfl, ?_⟩
            -- draws[1] = draws[1] + 1
            refine ⟨.ref da, rfl, da, _, 1, .int c, rfl, rfl, SqL.of hda, rfl, c, 1, rfl, rfl, .ref da, rfl, da, _, 1, 1, rfl, rfl, hda, rfl, ?_⟩
            -- at
            refine ⟨.ref da, rfl, da, _, 1, .int (c + 1), rfl, rfl, SqL.of hda1, rfl, .ref db, rfl, db, _, rfl, .inl (SqL.of hdb1), c + 1, _, rfl, rfl, hpos, ?_⟩
            simp only [hi]
            -- cell
            refine ⟨.ref db, rfl, .int ix, rfl, db, _, ix, .int cell, rfl, rfl, SqL.of hdb1, hget, ?_⟩
            refine ⟨.int cell, rfl, cell, _, rfl, rfl, _, rfl, ite2 (fun e => ?_) (fun e => ?_)⟩
            · rw [if_pos (of_decide_eq_true e)] at p
              refine ⟨.int cell, rfl, .int lim, rfl, cell, lim, rfl, rfl, ⟨h0, h30⟩, .ref db, rfl, .int ix, rfl, db, _, ix, ix.toNat, rfl, rfl, hdb1, hat, ?_⟩
              refine ⟨.int cell, rfl, .int lim, rfl, cell, lim, rfl, rfl, h0, ?_⟩
              refine draw_post S (fun a n1 n2 => ?_) ?_ ?_ p (.int _)
              · rw [upd_ne n2, upd_ne n1]
              · rw [upd_ne nd]; exact hda1
              · rw [upd_same, List.map_set]
            · rw [if_neg fun z => e (decide_eq_true z)] at p
              have k0 : ∀ x : Int, 0 ≤ x % 4294967291 ∧ x % 4294967291 < 4294967291 := fun x => ⟨Int.emod_nonneg _ (by decide), Int.emod_lt_of_pos _ (by decide)⟩
              refine ⟨.int cell, rfl, .ref da, rfl, da, _, 1, .int (c + 1), rfl, rfl, SqL.of hda1, rfl, 104729, c + 1, rfl, rfl, .inl ⟨by decide, by decide⟩, cell, _, rfl, rfl, _, _, rfl, rfl, (show (0 : Int) < 4294967291 by decide), ?_⟩
              refine ⟨_, rfl, _, 5, rfl, rfl, ⟨by decide, by decide, ?_⟩, _, _, rfl, rfl, (show (0 : Int) < 4294967279 by decide), ?_⟩
              · have z := k0 (cell + 104729 * (c + 1))
                omega
              · refine ⟨_, rfl, _, _, rfl, rfl, ⟨by decide, by decide⟩, _, _, rfl, rfl, .inr ⟨by decide, by decide⟩, _, rfl, _, _, rfl, rfl, _, _, rfl, rfl, (show (0 : Int) < 4294967231 by decide), _, _, rfl, rfl, ⟨by decide, by decide⟩, .int lim, rfl, _, lim, rfl, rfl, h0, ?_⟩
                refine draw_post S (fun a n1 n2 => ?_) ?_ ?_ p (.int _)
                · exact upd_ne n1
                · exact hda1
                · exact hdb1
      · exact p.elim
    · exact p.elim
theorem sc__law_start : FnScope ["script"] ["script"] (defScope (top 70)) := ⟨rfl, rfl, rfl, by decide +kernel, rfl, by decide +kernel, by decide +kernel⟩
theorem ok__law_start {P : Program} {w : World} {K : PySem.W.Frag} {mg : Str → Option Value} {base : Heap} {f : Addr} {fd : FuncData} (F : FunD K "_law_start" "_law_start" (defArgs (top 70)) (defBody (top 70)) (defScope (top 70)) [] [] f fd) (g : Free mg) :
    FnOk P w K mg base (L2.CX P w) 1 f fd ["script"] (spStart K) := by
  refine F.ok sc__law_start (fun vs H Q E h => ?_) (fun cdv A outer s H vs Q E hr h => ?_)
  · obtain ⟨a, ns, rfl, _⟩ := h
    rfl
  · obtain ⟨a, ns, rfl, hS, q⟩ := h
    refine ⟨_, pss_one (ps_ret (pe_lst (pa_cons (pe_ifExp (pt_cmpR (op_neD hr.units) (pv 0) (pe_lst pa_nil) (nomark _)) (pe_callTy call_list_of (by rfl) g.list_ (by decide +kernel) (pa_cons (pv 0) pa_nil)) (pe_lst (pa_cons pe_int pa_nil))) (pa_cons pe_int pa_nil)))), ?_⟩
    refine ⟨.ref a, rfl, Nat.zero_le _, fun e ne => ?_⟩
    have s1 : Same H (upd H e (.lst [])) := fun b o hb => sub_upd ne b o hb
    have all : ∀ ms : List Int, DpAll K (upd H e (.lst [])) (ms.map V.int) (ms.map PyData.int) := fun ms => by
      induction ms with
      | nil => exact .nil
      | cons m ms ih => exact .cons (.int m) ih
    have shp : SeqAt.shaped (.list (ns.map PyData.int)) = true := shaped_ints ns
    refine ⟨.list (ns.map PyData.int), .list [], .lst (s1.seq hS) (all ns), .lst (SqL.of upd_same) .nil, shp, rfl, _, rfl, ?_⟩
    have fin : ∀ (db : Addr) (H1 : Hp), Same H H1 → H db = none → H1 db = some (.lst ((startN ns).map V.int)) → tCons (tC (.int 0)) tNil (L2.start ["script"] [V.ref a]) H1 (fun xs H2 => (V.ref db :: xs).length ≤ sizeLine ∧ ∀ p, H2 p = none → Q (.ref p) (upd H2 p (.lst (V.ref db :: xs)))) := fun db H1 sm nb hb => by
      refine ⟨(show 2 ≤ sizeLine by decide), fun da hda => ?_⟩
      have nd : da ≠ db := fun z => by rw [z, hb] at hda; cases hda
      refine q da db _ (fun b o h => ?_) (sm.free hda) nb nd upd_same ?_
      · have z : b ≠ da := fun z => by rw [z, sm.free hda] at h; cases h
        rw [upd_ne z]; exact sm b o h
      · rw [upd_ne (Ne.symm nd)]; exact hb
    cases ns with
    | nil =>
      refine ⟨by decide, fun db nb => ?_⟩
      exact fin db _ (fun b o h => by
        have h1 := s1 b o h
        rw [upd_ne (ne_of_none h1 nb)]; exact h1) (s1.free nb) upd_same
    | cons n ms =>
      refine ⟨.ref a, rfl, a, _, rfl, .inl (s1.seq hS), fun db nb => ?_⟩
      exact fin db _ (fun b o h => by
        have h1 := s1 b o h
        rw [upd_ne (ne_of_none h1 nb)]; exact h1) (s1.free nb) upd_same

theorem sc_law : FnScope ["script", "draws", "things", "shown", "limit"] ["script"] (defScope (top 74)) := ⟨rfl, rfl, rfl, by decide +kernel, rfl, by decide +kernel, by decide +kernel⟩
def law0 : Stmt := (defBody (top 74)).headD (.Pass ⟨0, 0, 0, 0⟩)
def lawR : List Stmt := (defBody (top 74)).tail
theorem ok_law {P : Program} {w : World} {K : PySem.W.Frag} {mg : Str → Option Value} {base : Heap} {f fs : Addr} {fd fds : FuncData} {cls : Nat → Addr} (F : FunD K "law" "law" (defArgs (top 74)) (defBody (top 74)) (defScope (top 74)) [] [] f fd) (FS : FunD K "_law_start" "_law_start" (defArgs (top 70)) (defBody (top 70)) (defScope (top 70)) [] [] fs fds) (hs : mg "_law_start" = some (.ref fs)) (g : Free mg) {C : Addr} (T : WaC K mg C) (i_W : FnI P w K mg base cls C 3) (l_W : FnL P w K mg base cls C 1) (w_push : FnM P w K mg base cls C 3 "push" 2 m_push) (w_counts : FnM P w K mg base cls C 1 "counts" 1 m_W_counts) (w_things : FnM P w K mg base cls C 1 "things" 1 m_things) (d__law_draw : FnD P w K mg base cls 1 "_law_draw" 2 m__law_draw) (f__law_first : FnP P w K mg base cls 6 "_law_first" 1 m__law_first) (f__law_second : FnP P w K mg base cls 6 "_law_second" 1 m__law_second) (f_mixed_alarms : FnP P w K mg base cls 5 "mixed_alarms" 4 m_mixed_alarms) (f_area : FnP P w K mg base cls 5 "area" 1 m_area)
    (hlaw : ∀ ns : List Int, 0 < ns.length → ∃ s', b_law (none :: some (tokD 0) :: List.replicate 3 none) (ns, 0) = .ok (.rt (.bool true), s')) : FnOk P w K mg base (L2.CX P w) 7 f fd ["script"] (spLaw K) := by
  refine fn_law (cls := cls) (k := 6) (s0 := law0) (rest := lawR) F sc_law rfl (by decide) (fun cdv A outer s H E hr => ?_) (fun cdv A outer s H E da db G H0 hr => ?_) hlaw
  · exact ps_set (i := 1) sc_law.nd rfl (by first | exact Or.inl rfl | exact Or.inr rfl) (pe_call (ok__law_start FS g) (hr.mono (by decide)) (by rfl) hs FS.kp (FS.bindsN fun _ _ _ _ _ _ us hl => match us, hl with | [_], _ => rfl) .nil passL (pa_cons (pv 0) pa_nil))
  · have hp := passesO_of (CX := L2.CX P w) (P := P) (w := w) (K := K) (mg := mg) (base := base) (N := ["script", "draws", "things", "shown", "limit"]) (qual := "law") (scope := defScope (top 74)) (f := f) (cd := cdv) (A := A) (outer := outer) (s := s) (H := H) (E := E)
    exact (dss_cons (O1 := []) (ds_set 2 sc_law.nd (de_lst (da_cons (de_tup (da_cons de_int (da_cons de_bl da_nil))) (da_cons (de_tup (da_cons de_int (da_cons de_bl da_nil))) (da_cons (de_tup (da_cons de_int (da_cons de_bl da_nil))) (da_cons (de_tup (da_cons de_int (da_cons de_bl da_nil))) (da_cons (de_tup (da_cons de_int (da_cons de_bl da_nil))) da_nil)))))))
      (dss_cons (O1 := []) (ds_if (dt_bool (dw_or (dt_not (dt_val (de_call f__law_first (hr.mono (by decide)) passL (da_cons (de_var 2) da_nil)))) (dw_or1 (dt_not (dt_val (de_call f__law_second (hr.mono (by decide)) passL (da_cons (de_var 2) da_nil)))))))
      (dss_one (ds_ret de_bl))
      dss_nil)
      (dss_nW 3 sc_law.nd T i_W (hr.mono (by decide)) de_int (fun _ =>
      (dss_cons (O1 := []) (ds_if (dt_bool (dw_or (dt_cmp dop_isNot (de_mW w_push T (hr.mono (by decide)) (de_var 3) (da_cons (de_tup (da_cons de_int (da_cons de_bl da_nil))) da_nil)) de_bl) (dw_or1 (dt_cmp (dop_ne hr.units) (de_mW0 w_counts T (hr.mono (by decide)) (de_var 3)) (de_tup (da_cons de_int (da_cons de_int (da_cons de_int (da_cons de_int da_nil)))))))))
      (dss_one (ds_ret de_bl))
      dss_nil)
      (dss_cons (O1 := []) (ds_set 4 sc_law.nd (de_callD2 d__law_draw (hr.mono (by decide)) (da_cons (de_var 1) (da_cons de_int da_nil))))
      (dss_one (ds_ret (de_and (de_cmp (dop_eq hr.units) (de_call f_mixed_alarms (hr.mono (by decide)) passL (da_cons (de_lst (da_cons (de_tup (da_cons de_int (da_cons de_bl da_nil))) da_nil)) (da_cons (de_var 4) (da_cons (de_var 4) (da_cons (de_tup (da_cons de_int (da_cons de_int da_nil))) da_nil))))) (de_tup (da_cons (de_tup (da_cons de_int (da_cons de_int da_nil))) (da_cons (de_tup (da_cons (de_if (dt_cmp dop_le (de_var 4) de_int) de_int de_int) (da_cons de_int da_nil))) da_nil)))) (de_one (de_cmp (dop_eq hr.units) (de_call f_area (hr.mono (by decide)) passL (da_cons (de_var 2) da_nil)) (de_tup (da_cons de_int (da_cons de_int da_nil))))))))))))))

theorem factsK {P : Program} {w : World} {K : PySem.W.Frag} {h : Heap} {mg : Str → Option Value} {f : Addr} (X : K.In h) (G : h.Ns mainGlobals mg) (hfa : mg ("law" : Str) = some (.ref f)) (c : He.SaysD faL fnL K)
    (hlaw : ∀ ns : List Int, 0 < ns.length → ∃ s', b_law (none :: some (tokD 0) :: List.replicate 3 none) (ns, 0) = .ok (.rt (.bool true), s')) :
    ∃ fd : FuncData, (∀ (s : Shared) (v : Value), BindsTo s fd ⟨[v], []⟩ [("script", v)]) ∧ ∀ base : Heap, K.In base → base.Ns mainGlobals mg → FnOk P w K mg base (L2.CX P w) 7 f fd ["script"] (spLaw K) := by
  obtain ⟨fd_is_int, F_is_int⟩ := c.def_ 0 (d := ⟨("is_int", none), "is_int", "is_int", defArgs (top 9), defBody (top 9), defScope (top 9), [], []⟩) rfl
  have g_is_int := He.glo_ok X G (c.fact 0 (f := .glo "is_int") rfl)
  obtain ⟨fd_is_thing, F_is_thing⟩ := c.def_ 1 (d := ⟨("is_thing", none), "is_thing", "is_thing", defArgs (top 10), defBody (top 10), defScope (top 10), [], []⟩) rfl
  have g_is_thing := He.glo_ok X G (c.fact 1 (f := .glo "is_thing") rfl)
  obtain ⟨fd_is_things, F_is_things⟩ := c.def_ 2 (d := ⟨("is_things", none), "is_things", "is_things", defArgs (top 11), defBody (top 11), defScope (top 11), [], []⟩) rfl
  have g_is_things := He.glo_ok X G (c.fact 2 (f := .glo "is_things") rfl)
  obtain ⟨fd_check_things, F_check_things⟩ := c.def_ 3 (d := ⟨("check_things", none), "check_things", "check_things", defArgs (top 12), defBody (top 12), defScope (top 12), [], []⟩) rfl
  have g_check_things := He.glo_ok X G (c.fact 3 (f := .glo "check_things") rfl)
  obtain ⟨fd_check_threshold, F_check_threshold⟩ := c.def_ 4 (d := ⟨("check_threshold", none), "check_threshold", "check_threshold", defArgs (top 13), defBody (top 13), defScope (top 13), [], []⟩) rfl
  have g_check_threshold := He.glo_ok X G (c.fact 4 (f := .glo "check_threshold") rfl)
  obtain ⟨fd_check_cost, F_check_cost⟩ := c.def_ 5 (d := ⟨("check_cost", none), "check_cost", "check_cost", defArgs (top 14), defBody (top 14), defScope (top 14), [], []⟩) rfl
  have g_check_cost := He.glo_ok X G (c.fact 5 (f := .glo "check_cost") rfl)
  obtain ⟨fd_is_points, F_is_points⟩ := c.def_ 6 (d := ⟨("is_points", none), "is_points", "is_points", defArgs (top 15), defBody (top 15), defScope (top 15), [], []⟩) rfl
  have g_is_points := He.glo_ok X G (c.fact 6 (f := .glo "is_points") rfl)
  obtain ⟨fd_check_points, F_check_points⟩ := c.def_ 7 (d := ⟨("check_points", none), "check_points", "check_points", defArgs (top 16), defBody (top 16), defScope (top 16), [], []⟩) rfl
  have g_check_points := He.glo_ok X G (c.fact 7 (f := .glo "check_points") rfl)
  obtain ⟨fd_common, F_common⟩ := c.def_ 8 (d := ⟨("common", none), "common", "common", defArgs (top 18), defBody (top 18), defScope (top 18), [], []⟩) rfl
  have g_common := He.glo_ok X G (c.fact 8 (f := .glo "common") rfl)
  obtain ⟨fd_lowest, F_lowest⟩ := c.def_ 9 (d := ⟨("lowest", none), "lowest", "lowest", defArgs (top 19), defBody (top 19), defScope (top 19), [], []⟩) rfl
  have g_lowest := He.glo_ok X G (c.fact 9 (f := .glo "lowest") rfl)
  obtain ⟨fd_plus, F_plus⟩ := c.def_ 10 (d := ⟨("plus", none), "plus", "plus", defArgs (top 20), defBody (top 20), defScope (top 20), [], []⟩) rfl
  have g_plus := He.glo_ok X G (c.fact 10 (f := .glo "plus") rfl)
  obtain ⟨fd_product, F_product⟩ := c.def_ 11 (d := ⟨("product", none), "product", "product", defArgs (top 21), defBody (top 21), defScope (top 21), [], []⟩) rfl
  have g_product := He.glo_ok X G (c.fact 11 (f := .glo "product") rfl)
  obtain ⟨fd_less, F_less⟩ := c.def_ 12 (d := ⟨("less", none), "less", "less", defArgs (top 22), defBody (top 22), defScope (top 22), [], []⟩) rfl
  have g_less := He.glo_ok X G (c.fact 12 (f := .glo "less") rfl)
  obtain ⟨fd_is_mean, F_is_mean⟩ := c.def_ 13 (d := ⟨("is_mean", none), "is_mean", "is_mean", defArgs (top 23), defBody (top 23), defScope (top 23), [], []⟩) rfl
  have g_is_mean := He.glo_ok X G (c.fact 13 (f := .glo "is_mean") rfl)
  obtain ⟨fd_check_mean, F_check_mean⟩ := c.def_ 14 (d := ⟨("check_mean", none), "check_mean", "check_mean", defArgs (top 24), defBody (top 24), defScope (top 24), [], []⟩) rfl
  have g_check_mean := He.glo_ok X G (c.fact 14 (f := .glo "check_mean") rfl)
  obtain ⟨fd_counts, F_counts⟩ := c.def_ 15 (d := ⟨("counts", none), "counts", "counts", defArgs (top 26), defBody (top 26), defScope (top 26), [], []⟩) rfl
  have g_counts := He.glo_ok X G (c.fact 15 (f := .glo "counts") rfl)
  obtain ⟨fd_scores_of, F_scores_of⟩ := c.def_ 16 (d := ⟨("scores_of", none), "scores_of", "scores_of", defArgs (top 27), defBody (top 27), defScope (top 27), [], []⟩) rfl
  have g_scores_of := He.glo_ok X G (c.fact 16 (f := .glo "scores_of") rfl)
  obtain ⟨fd_points_of, F_points_of⟩ := c.def_ 17 (d := ⟨("points_of", none), "points_of", "points_of", defArgs (top 28), defBody (top 28), defScope (top 28), [], []⟩) rfl
  have g_points_of := He.glo_ok X G (c.fact 17 (f := .glo "points_of") rfl)
  obtain ⟨fd_curve, F_curve⟩ := c.def_ 18 (d := ⟨("curve", none), "curve", "curve", defArgs (top 29), defBody (top 29), defScope (top 29), [], []⟩) rfl
  have g_curve := He.glo_ok X G (c.fact 18 (f := .glo "curve") rfl)
  obtain ⟨fd_most_true, F_most_true⟩ := c.def_ 19 (d := ⟨("most_true", none), "most_true", "most_true", defArgs (top 30), defBody (top 30), defScope (top 30), [], []⟩) rfl
  have g_most_true := He.glo_ok X G (c.fact 19 (f := .glo "most_true") rfl)
  obtain ⟨fd_outcomes, F_outcomes⟩ := c.def_ 20 (d := ⟨("outcomes", none), "outcomes", "outcomes", defArgs (top 32), defBody (top 32), defScope (top 32), [], []⟩) rfl
  have g_outcomes := He.glo_ok X G (c.fact 20 (f := .glo "outcomes") rfl)
  obtain ⟨fd_pair_counts, F_pair_counts⟩ := c.def_ 21 (d := ⟨("pair_counts", none), "pair_counts", "pair_counts", defArgs (top 33), defBody (top 33), defScope (top 33), [], []⟩) rfl
  have g_pair_counts := He.glo_ok X G (c.fact 21 (f := .glo "pair_counts") rfl)
  obtain ⟨fd_double_area, F_double_area⟩ := c.def_ 22 (d := ⟨("double_area", none), "double_area", "double_area", defArgs (top 34), defBody (top 34), defScope (top 34), [], []⟩) rfl
  have g_double_area := He.glo_ok X G (c.fact 22 (f := .glo "double_area") rfl)
  obtain ⟨fd_area, F_area⟩ := c.def_ 23 (d := ⟨("area", none), "area", "area", defArgs (top 35), defBody (top 35), defScope (top 35), [], []⟩) rfl
  have g_area := He.glo_ok X G (c.fact 23 (f := .glo "area") rfl)
  obtain ⟨fd_way_turn, F_way_turn⟩ := c.def_ 24 (d := ⟨("way_turn", none), "way_turn", "way_turn", defArgs (top 37), defBody (top 37), defScope (top 37), [], []⟩) rfl
  have g_way_turn := He.glo_ok X G (c.fact 24 (f := .glo "way_turn") rfl)
  obtain ⟨fd_corners_of, F_corners_of⟩ := c.def_ 25 (d := ⟨("corners_of", none), "corners_of", "corners_of", defArgs (top 38), defBody (top 38), defScope (top 38), [], []⟩) rfl
  have g_corners_of := He.glo_ok X G (c.fact 25 (f := .glo "corners_of") rfl)
  obtain ⟨fd_hull, F_hull⟩ := c.def_ 26 (d := ⟨("hull", none), "hull", "hull", defArgs (top 39), defBody (top 39), defScope (top 39), [], []⟩) rfl
  have g_hull := He.glo_ok X G (c.fact 26 (f := .glo "hull") rfl)
  obtain ⟨fd_height_of, F_height_of⟩ := c.def_ 27 (d := ⟨("height_of", none), "height_of", "height_of", defArgs (top 40), defBody (top 40), defScope (top 40), [], []⟩) rfl
  have g_height_of := He.glo_ok X G (c.fact 27 (f := .glo "height_of") rfl)
  obtain ⟨fd_check_share, F_check_share⟩ := c.def_ 28 (d := ⟨("check_share", none), "check_share", "check_share", defArgs (top 42), defBody (top 42), defScope (top 42), [], []⟩) rfl
  have g_check_share := He.glo_ok X G (c.fact 28 (f := .glo "check_share") rfl)
  obtain ⟨fd_mean_point, F_mean_point⟩ := c.def_ 29 (d := ⟨("mean_point", none), "mean_point", "mean_point", defArgs (top 43), defBody (top 43), defScope (top 43), [], []⟩) rfl
  have g_mean_point := He.glo_ok X G (c.fact 29 (f := .glo "mean_point") rfl)
  obtain ⟨fd_mixed_alarms, F_mixed_alarms⟩ := c.def_ 30 (d := ⟨("mixed_alarms", none), "mixed_alarms", "mixed_alarms", defArgs (top 44), defBody (top 44), defScope (top 44), [], []⟩) rfl
  have g_mixed_alarms := He.glo_ok X G (c.fact 30 (f := .glo "mixed_alarms") rfl)
  obtain ⟨fd_best_true, F_best_true⟩ := c.def_ 31 (d := ⟨("best_true", none), "best_true", "best_true", defArgs (top 45), defBody (top 45), defScope (top 45), [], []⟩) rfl
  have g_best_true := He.glo_ok X G (c.fact 31 (f := .glo "best_true") rfl)
  obtain ⟨fd_check_costs, F_check_costs⟩ := c.def_ 32 (d := ⟨("check_costs", none), "check_costs", "check_costs", defArgs (top 47), defBody (top 47), defScope (top 47), [], []⟩) rfl
  have g_check_costs := He.glo_ok X G (c.fact 32 (f := .glo "check_costs") rfl)
  obtain ⟨fd_best_points, F_best_points⟩ := c.def_ 33 (d := ⟨("best_points", none), "best_points", "best_points", defArgs (top 48), defBody (top 48), defScope (top 48), [], []⟩) rfl
  have g_best_points := He.glo_ok X G (c.fact 33 (f := .glo "best_points") rfl)
  obtain ⟨fd_miss_cost_for, F_miss_cost_for⟩ := c.def_ 34 (d := ⟨("miss_cost_for", none), "miss_cost_for", "miss_cost_for", defArgs (top 49), defBody (top 49), defScope (top 49), [], []⟩) rfl
  have g_miss_cost_for := He.glo_ok X G (c.fact 34 (f := .glo "miss_cost_for") rfl)
  obtain ⟨fd_levels, F_levels⟩ := c.def_ 35 (d := ⟨("levels", none), "levels", "levels", defArgs (top 51), defBody (top 51), defScope (top 51), [], []⟩) rfl
  have g_levels := He.glo_ok X G (c.fact 35 (f := .glo "levels") rfl)
  obtain ⟨fd_falls, F_falls⟩ := c.def_ 36 (d := ⟨("falls", none), "falls", "falls", defArgs (top 52), defBody (top 52), defScope (top 52), [], []⟩) rfl
  have g_falls := He.glo_ok X G (c.fact 36 (f := .glo "falls") rfl)
  obtain ⟨fd_put_together, F_put_together⟩ := c.def_ 37 (d := ⟨("put_together", none), "put_together", "put_together", defArgs (top 53), defBody (top 53), defScope (top 53), [], []⟩) rfl
  have g_put_together := He.glo_ok X G (c.fact 37 (f := .glo "put_together") rfl)
  obtain ⟨fd_pooled, F_pooled⟩ := c.def_ 38 (d := ⟨("pooled", none), "pooled", "pooled", defArgs (top 54), defBody (top 54), defScope (top 54), [], []⟩) rfl
  have g_pooled := He.glo_ok X G (c.fact 38 (f := .glo "pooled") rfl)
  obtain ⟨fd_pools, F_pools⟩ := c.def_ 39 (d := ⟨("pools", none), "pools", "pools", defArgs (top 55), defBody (top 55), defScope (top 55), [], []⟩) rfl
  have g_pools := He.glo_ok X G (c.fact 39 (f := .glo "pools") rfl)
  obtain ⟨fd_check_both, F_check_both⟩ := c.def_ 40 (d := ⟨("check_both", none), "check_both", "check_both", defArgs (top 57), defBody (top 57), defScope (top 57), [], []⟩) rfl
  have g_check_both := He.glo_ok X G (c.fact 40 (f := .glo "check_both") rfl)
  obtain ⟨fd_height, F_height⟩ := c.def_ 41 (d := ⟨("height", none), "height", "height", defArgs (top 58), defBody (top 58), defScope (top 58), [], []⟩) rfl
  have g_height := He.glo_ok X G (c.fact 41 (f := .glo "height") rfl)
  obtain ⟨fd_first_below, F_first_below⟩ := c.def_ 42 (d := ⟨("first_below", none), "first_below", "first_below", defArgs (top 59), defBody (top 59), defScope (top 59), [], []⟩) rfl
  have g_first_below := He.glo_ok X G (c.fact 42 (f := .glo "first_below") rfl)
  obtain ⟨fd_things_with, F_things_with⟩ := c.def_ 43 (d := ⟨("things_with", none), "things_with", "things_with", defArgs (top 62), defBody (top 62), defScope (top 62), [], []⟩) rfl
  have g_things_with := He.glo_ok X G (c.fact 43 (f := .glo "things_with") rfl)
  obtain ⟨fd_check_numbers, F_check_numbers⟩ := c.def_ 44 (d := ⟨("check_numbers", none), "check_numbers", "check_numbers", defArgs (top 63), defBody (top 63), defScope (top 63), [], []⟩) rfl
  have g_check_numbers := He.glo_ok X G (c.fact 44 (f := .glo "check_numbers") rfl)
  obtain ⟨fd_count_curves, F_count_curves⟩ := c.def_ 45 (d := ⟨("count_curves", none), "count_curves", "count_curves", defArgs (top 64), defBody (top 64), defScope (top 64), [], []⟩) rfl
  have g_count_curves := He.glo_ok X G (c.fact 45 (f := .glo "count_curves") rfl)
  obtain ⟨fd_format_things, F_format_things⟩ := c.def_ 46 (d := ⟨("format_things", none), "format_things", "format_things", defArgs (top 68), defBody (top 68), defScope (top 68), [], []⟩) rfl
  have g_format_things := He.glo_ok X G (c.fact 46 (f := .glo "format_things") rfl)
  obtain ⟨fd__law_start, F__law_start⟩ := c.def_ 47 (d := ⟨("_law_start", none), "_law_start", "_law_start", defArgs (top 70), defBody (top 70), defScope (top 70), [], []⟩) rfl
  have g__law_start := He.glo_ok X G (c.fact 47 (f := .glo "_law_start") rfl)
  obtain ⟨fd__law_draw, F__law_draw⟩ := c.def_ 48 (d := ⟨("_law_draw", none), "_law_draw", "_law_draw", defArgs (top 71), defBody (top 71), defScope (top 71), [], []⟩) rfl
  have g__law_draw := He.glo_ok X G (c.fact 48 (f := .glo "_law_draw") rfl)
  obtain ⟨fd__law_first, F__law_first⟩ := c.def_ 49 (d := ⟨("_law_first", none), "_law_first", "_law_first", defArgs (top 72), defBody (top 72), defScope (top 72), [], []⟩) rfl
  have g__law_first := He.glo_ok X G (c.fact 49 (f := .glo "_law_first") rfl)
  obtain ⟨fd__law_second, F__law_second⟩ := c.def_ 50 (d := ⟨("_law_second", none), "_law_second", "_law_second", defArgs (top 73), defBody (top 73), defScope (top 73), [], []⟩) rfl
  have g__law_second := He.glo_ok X G (c.fact 50 (f := .glo "_law_second") rfl)
  obtain ⟨fd_law, F_law⟩ := c.def_ 51 (d := ⟨("law", none), "law", "law", defArgs (top 74), defBody (top 74), defScope (top 74), [], []⟩) rfl
  have g_law := He.glo_ok X G (c.fact 51 (f := .glo "law") rfl)
  have x_BadThings : ExcF K mg (clsK K) 0 "BadThings" := exc_mk X G rfl (c.fact 52 (f := .glo "BadThings") rfl) (c.fact 56 (f := .exc "BadThings") rfl)
  have x_BadNumber : ExcF K mg (clsK K) 1 "BadNumber" := exc_mk X G rfl (c.fact 53 (f := .glo "BadNumber") rfl) (c.fact 57 (f := .exc "BadNumber") rfl)
  have x_BadPoints : ExcF K mg (clsK K) 2 "BadPoints" := exc_mk X G rfl (c.fact 54 (f := .glo "BadPoints") rfl) (c.fact 58 (f := .exc "BadPoints") rfl)
  have x_NotFound : ExcF K mg (clsK K) 4 "NotFound" := exc_mk X G rfl (c.fact 55 (f := .glo "NotFound") rfl) (c.fact 59 (f := .exc "NotFound") rfl)
  obtain ⟨t_MOST_THINGS, c_MOST_THINGS⟩ := int_mk X G (c.fact 60 (f := .int "MOST_THINGS" 12) rfl)
  obtain ⟨t_MOST_SCORE, c_MOST_SCORE⟩ := int_mk X G (c.fact 61 (f := .int "MOST_SCORE" 99) rfl)
  obtain ⟨t_MOST_EACH, c_MOST_EACH⟩ := int_mk X G (c.fact 62 (f := .int "MOST_EACH" 4) rfl)
  have T : WaC K mg (He.ga K "Watch") := ⟨He.cls_ok (c.fact 64 (f := .cls "Watch") rfl), He.noat_ok (c.fact 65 (f := .noat "Watch" "threshold") rfl), He.noat_ok (c.fact 66 (f := .noat "Watch" "line") rfl), He.glo_ok X G (c.fact 63 (f := .glo "Watch") rfl)⟩
  obtain ⟨fd_W___init__, F_W___init__⟩ := c.def_ 52 (d := ⟨("Watch", some "__init__"), "__init__", "Watch.__init__", defArgs (inClass (top 66) 0), defBody (inClass (top 66) 0), defScope (inClass (top 66) 0), [], []⟩) rfl
  obtain ⟨fd_W_push, F_W_push⟩ := c.def_ 53 (d := ⟨("Watch", some "push"), "push", "Watch.push", defArgs (inClass (top 66) 1), defBody (inClass (top 66) 1), defScope (inClass (top 66) 1), [], []⟩) rfl
  obtain ⟨fd_W_counts, F_W_counts⟩ := c.def_ 54 (d := ⟨("Watch", some "counts"), "counts", "Watch.counts", defArgs (inClass (top 66) 3), defBody (inClass (top 66) 3), defScope (inClass (top 66) 3), [], []⟩) rfl
  obtain ⟨fd_W_things, F_W_things⟩ := c.def_ 55 (d := ⟨("Watch", some "things"), "things", "Watch.things", defArgs (inClass (top 66) 4), defBody (inClass (top 66) 4), defScope (inClass (top 66) 4), [], []⟩) rfl
  obtain ⟨fd_W___len__, F_W___len__⟩ := c.def_ 56 (d := ⟨("Watch", some "__len__"), "__len__", "Watch.__len__", defArgs (inClass (top 66) 6), defBody (inClass (top 66) 6), defScope (inClass (top 66) 6), [], []⟩) rfl
  have mk_W := He.mkr_ok (c.fact 67 (f := .mkr "Watch") rfl)
  have me_push := He.meth_ok (c.fact 68 (f := .meth "Watch" "push") rfl)
  have me_counts := He.meth_ok (c.fact 69 (f := .meth "Watch" "counts") rfl)
  have me_things := He.meth_ok (c.fact 70 (f := .meth "Watch" "things") rfl)
  have me___len__ := He.meth_ok (c.fact 71 (f := .meth "Watch" "__len__") rfl)
  have g : Free mg := free_mk X G fun f hf => by
    obtain ⟨i, hi, e⟩ := List.getElem_of_mem hf
    exact c.fact (72 + i) (by
      unfold faL
      rw [List.getElem?_append_right (by simp), show 72 + i - _ = i from by simp]
      rw [← e]
      exact List.getElem?_eq_getElem hi)
  have e := hfa.symm.trans g_law
  cases e
  have bl := FunD.bindsA (ps := ["script"]) F_law fun _ _ _ _ _ _ us hl => match us, hl with | [_], _ => rfl
  refine ⟨fd_law, fun s v => bl s [v] rfl, fun base _ _ => ?_⟩
  have f_is_int : FnP P w K mg base (clsK K) 1 "is_int" 3 m_is_int := ok_is_int F_is_int g_is_int g
  have f_is_thing : FnP P w K mg base (clsK K) 2 "is_thing" 1 m_is_thing := ok_is_thing F_is_thing g_is_thing g f_is_int c_MOST_SCORE
  have f_check_threshold : FnP P w K mg base (clsK K) 2 "check_threshold" 1 m_check_threshold := ok_check_threshold F_check_threshold g_check_threshold g f_is_int c_MOST_SCORE x_BadNumber
  have i_W : FnI P w K mg base (clsK K) (He.ga K "Watch") 3 := ⟨_, _, ok_W_init F_W___init__ T f_check_threshold, mk_W, F_W___init__.bindsN fun _ _ _ _ _ _ us hl => match us, hl with | [_, _], _ => rfl⟩
  have l_W : FnL P w K mg base (clsK K) (He.ga K "Watch") 1 := ⟨_, _, ok_W_len F_W___len__ T g, me___len__, F_W___len__.bindsN fun _ _ _ _ _ _ us hl => match us, hl with | [_], _ => rfl⟩
  have w_push : FnM P w K mg base (clsK K) (He.ga K "Watch") 3 "push" 2 m_push := ⟨_, _, _, ok_W_push F_W_push T f_is_thing x_BadThings, me_push, (F_W_push.bindsN fun _ _ _ _ _ _ us hl => match us, hl with | [_, _], _ => rfl), by decide +kernel, by decide +kernel⟩
  have w_counts : FnM P w K mg base (clsK K) (He.ga K "Watch") 1 "counts" 1 m_W_counts := ⟨_, _, _, ok_W_counts F_W_counts T g, me_counts, (F_W_counts.bindsN fun _ _ _ _ _ _ us hl => match us, hl with | [_], _ => rfl), by decide +kernel, by decide +kernel⟩
  have w_things : FnM P w K mg base (clsK K) (He.ga K "Watch") 1 "things" 1 m_things := ⟨_, _, _, ok_W_things F_W_things T g, me_things, (F_W_things.bindsN fun _ _ _ _ _ _ us hl => match us, hl with | [_], _ => rfl), by decide +kernel, by decide +kernel⟩
  have f_common : FnP P w K mg base (clsK K) 1 "common" 2 m_common := ok_common F_common g_common g
  have f_less : FnP P w K mg base (clsK K) 1 "less" 2 m_less := ok_less F_less g_less g
  have f_counts : FnP P w K mg base (clsK K) 1 "counts" 2 m_counts := ok_counts F_counts g_counts g
  have f_scores_of : FnP P w K mg base (clsK K) 1 "scores_of" 1 m_scores_of := ok_scores_of F_scores_of g_scores_of g
  have f_outcomes : FnP P w K mg base (clsK K) 1 "outcomes" 1 m_outcomes := ok_outcomes F_outcomes g_outcomes g
  have f_double_area : FnP P w K mg base (clsK K) 1 "double_area" 1 m_double_area := ok_double_area F_double_area g_double_area g
  have f_way_turn : FnP P w K mg base (clsK K) 1 "way_turn" 3 m_way_turn := ok_way_turn F_way_turn g_way_turn g
  have f_falls : FnP P w K mg base (clsK K) 1 "falls" 2 m_falls := ok_falls F_falls g_falls g
  have f_put_together : FnP P w K mg base (clsK K) 1 "put_together" 2 m_put_together := ok_put_together F_put_together g_put_together g
  have d__law_draw : FnD P w K mg base (clsK K) 1 "_law_draw" 2 m__law_draw := ok__law_draw F__law_draw g__law_draw g
  have f_check_cost : FnP P w K mg base (clsK K) 2 "check_cost" 1 m_check_cost := ok_check_cost F_check_cost g_check_cost g f_is_int x_BadNumber
  have f_is_points : FnP P w K mg base (clsK K) 2 "is_points" 1 m_is_points := ok_is_points F_is_points g_is_points g f_is_int c_MOST_THINGS
  have f_lowest : FnP P w K mg base (clsK K) 2 "lowest" 2 m_lowest := ok_lowest F_lowest g_lowest g f_common
  have f_is_mean : FnP P w K mg base (clsK K) 2 "is_mean" 2 m_is_mean := ok_is_mean F_is_mean g_is_mean g f_is_int f_common
  have f_points_of : FnP P w K mg base (clsK K) 2 "points_of" 1 m_points_of := ok_points_of F_points_of g_points_of g f_counts f_scores_of
  have f_corners_of : FnP P w K mg base (clsK K) 2 "corners_of" 1 m_corners_of := ok_corners_of F_corners_of g_corners_of g f_way_turn
  have f_check_share : FnP P w K mg base (clsK K) 2 "check_share" 1 m_check_share := ok_check_share F_check_share g_check_share g f_is_int f_common x_BadNumber
  have f_levels : FnP P w K mg base (clsK K) 2 "levels" 1 m_levels := ok_levels F_levels g_levels g f_scores_of f_counts
  have f_check_numbers : FnP P w K mg base (clsK K) 2 "check_numbers" 2 m_check_numbers := ok_check_numbers F_check_numbers g_check_numbers g f_is_int c_MOST_EACH x_BadNumber
  have f_is_things : FnP P w K mg base (clsK K) 3 "is_things" 1 m_is_things := ok_is_things F_is_things g_is_things g f_is_thing c_MOST_THINGS
  have f_check_points : FnP P w K mg base (clsK K) 3 "check_points" 1 m_check_points := ok_check_points F_check_points g_check_points g f_is_points x_BadPoints
  have f_plus : FnP P w K mg base (clsK K) 3 "plus" 2 m_plus := ok_plus F_plus g_plus g f_lowest
  have f_product : FnP P w K mg base (clsK K) 3 "product" 2 m_product := ok_product F_product g_product g f_lowest
  have f_check_mean : FnP P w K mg base (clsK K) 3 "check_mean" 2 m_check_mean := ok_check_mean F_check_mean g_check_mean g f_is_mean x_BadNumber
  have f_height_of : FnP P w K mg base (clsK K) 3 "height_of" 2 m_height_of := ok_height_of F_height_of g_height_of g f_lowest f_less
  have f_check_costs : FnP P w K mg base (clsK K) 3 "check_costs" 2 m_check_costs := ok_check_costs F_check_costs g_check_costs g f_check_cost
  have f_pooled : FnP P w K mg base (clsK K) 3 "pooled" 1 m_pooled := ok_pooled F_pooled g_pooled g f_levels f_falls f_put_together
  have f_height : FnP P w K mg base (clsK K) 3 "height" 2 m_height := ok_height F_height g_height g f_lowest f_less
  have f_count_curves : FnP P w K mg base (clsK K) 3 "count_curves" 2 m_count_curves := ok_count_curves F_count_curves g_count_curves g f_check_numbers
  have f_check_things : FnP P w K mg base (clsK K) 4 "check_things" 1 m_check_things := ok_check_things F_check_things g_check_things g f_is_things x_BadThings
  have f_mean_point : FnP P w K mg base (clsK K) 4 "mean_point" 3 m_mean_point := ok_mean_point F_mean_point g_mean_point g f_plus f_product
  have f_check_both : FnP P w K mg base (clsK K) 4 "check_both" 2 m_check_both := ok_check_both F_check_both g_check_both g f_check_points x_BadPoints
  have f_things_with : FnP P w K mg base (clsK K) 4 "things_with" 1 m_things_with := ok_things_with F_things_with g_things_with g f_check_points
  have f_curve : FnP P w K mg base (clsK K) 5 "curve" 1 m_curve := ok_curve F_curve g_curve g f_check_things f_points_of
  have f_most_true : FnP P w K mg base (clsK K) 5 "most_true" 2 m_most_true := ok_most_true F_most_true g_most_true g f_check_things f_is_int f_points_of x_BadNumber
  have f_pair_counts : FnP P w K mg base (clsK K) 5 "pair_counts" 1 m_pair_counts := ok_pair_counts F_pair_counts g_pair_counts g f_check_things f_outcomes
  have f_area : FnP P w K mg base (clsK K) 5 "area" 1 m_area := ok_area F_area g_area g f_check_things f_points_of f_lowest f_double_area x_NotFound
  have f_hull : FnP P w K mg base (clsK K) 5 "hull" 1 m_hull := ok_hull F_hull g_hull g f_check_things f_corners_of f_points_of
  have f_mixed_alarms : FnP P w K mg base (clsK K) 5 "mixed_alarms" 4 m_mixed_alarms := ok_mixed_alarms F_mixed_alarms g_mixed_alarms g f_check_things f_check_share f_mean_point f_counts f_is_int x_BadNumber
  have f_best_true : FnP P w K mg base (clsK K) 5 "best_true" 2 m_best_true := ok_best_true F_best_true g_best_true g f_check_things f_check_mean f_height_of f_corners_of f_counts f_points_of
  have f_best_points : FnP P w K mg base (clsK K) 5 "best_points" 3 m_best_points := ok_best_points F_best_points g_best_points g f_check_things f_check_costs f_points_of f_counts
  have f_miss_cost_for : FnP P w K mg base (clsK K) 5 "miss_cost_for" 3 m_miss_cost_for := ok_miss_cost_for F_miss_cost_for g_miss_cost_for g f_check_things f_check_cost f_is_int f_counts f_points_of x_BadNumber
  have f_pools : FnP P w K mg base (clsK K) 5 "pools" 1 m_pools := ok_pools F_pools g_pools g f_check_things f_pooled
  have f_first_below : FnP P w K mg base (clsK K) 5 "first_below" 2 m_first_below := ok_first_below F_first_below g_first_below g f_check_both f_less f_height
  have f_format_things : FnP P w K mg base (clsK K) 5 "format_things" 1 m_format_things := ok_format_things F_format_things g_format_things g f_check_things
  have f__law_first : FnP P w K mg base (clsK K) 6 "_law_first" 1 m__law_first := ok__law_first F__law_first g__law_first g f_curve f_most_true f_pair_counts f_hull f_best_points f_miss_cost_for f_best_true
  have f__law_second : FnP P w K mg base (clsK K) 6 "_law_second" 1 m__law_second := ok__law_second F__law_second g__law_second g f_format_things f_pools f_first_below f_things_with f_count_curves
  exact ok_law F_law F__law_start g__law_start g T i_W l_W w_push w_counts w_things d__law_draw f__law_first f__law_second f_mixed_alarms f_area hlaw

end KK
set_option maxHeartbeats 0
open PySem PySem.W PySem.Calls PyProof.Rows
theorem PySem.Challenge.cw_alarmcurves_k18_examples_holds : PySem.Challenge.rw_alarmcurves_k18_examples.Holds := by
  w_on; o_law
  refine HandSHeadRun.head_any (r := OpenLaw.row PySem.Challenge.rw_alarmcurves_k18_examples) (q := view (OpenLaw.row PySem.Challenge.rw_alarmcurves_k18_examples).prog [74]) (H := KK.hkK) (ob := KK.obK) (M := 8000) (loose := KK.looseK) (d := HandSHeadRun.topDef (OpenLaw.row PySem.Challenge.rw_alarmcurves_k18_examples).prog 74) (kwd := []) KK.obK_eq
    (by kernel_rfl) (fun s => by kernel_rfl) KK.runK (by kernel_rfl) (by kernel_rfl) (by kernel_rfl) (by rfl) (by first | assumption | decide +kernel) (by decide +kernel) ⟨rfl, rfl, rfl, rfl, rfl, by decide +kernel⟩ ?hw ?hc
  case hw => w_witness2
  case hc =>
    refine L2.walk_ofE (l := PySem.Challenge.rw_alarmcurves_k18_examples) (n := 63) (k := 7) (x := "script") (CX := L2.CX0) rfl (by decide) (by kernel_rfl) ⟨rfl, by decide, by decide⟩ ?F (fun _ _ _ _ z => z)
    intro w mg fa h Y G hmg0
    obtain ⟨K, KX, c⟩ := Y
    have hmg : mg ("law" : PySem.Str) = some (.ref fa) := by
      have e : (HandSHeadRun.topDef (OpenLaw.row PySem.Challenge.rw_alarmcurves_k18_examples).prog 74).name = ("law" : PySem.Str) := by kernel_rfl
      rw [← e]
      exact hmg0
    obtain ⟨fd, hb, hF⟩ := KK.factsK (P := (PySem.Challenge.rw_alarmcurves_k18_examples).prog) (w := w) KX G hmg c KK.law_true
    exact ⟨K, fd, DL.spLaw K, KX, hb, fun H a ns hl _ hS => ⟨a, ns, rfl, hS, hl, fun _ => rfl⟩, fun base k1 k2 => DL.law_noX (hF base k1 k2)⟩

