import PyProof.Rows.All
import HandS.Conv
import HandS.Deep
import HandS.Defaults
import HandS.Dict
import HandS.Exc
import HandS.ExcIs
import HandS.ExcOwn
import HandS.FStr
import HandS.ForMost
import HandS.Head0
import HandS.Head1
import HandS.Head2
import HandS.HeadEnd
import HandS.HeadHook1
import HandS.HeadHook2
import HandS.HeadHook4
import HandS.IsInst
import HandS.Iter
import HandS.OwnIter
import HandS.SetFor
import HandS.SortInts
import HandS.SortRule
import HandS.Strs
import HandS.Style
import HandS.Text
import HandS.TryOnly
import HandS.TupAny
import HandS.TupSets
import HandS.WordsExc
import KE.KRevSl
import KE.SortData
import OpenK.AllK
import PyProof.DictDisplay
import PyProof.DictFindH
import PyProof.DictTable
import Wide.All
import Wide.FinOn
import PySem.Challenge.RW_alarmcurves_k17_more_errors
set_option Elab.async false
set_option linter.all false
set_option maxRecDepth 100000
set_option maxHeartbeats 4000000
set_option autoImplicit false
/-! DL1: data over a ghost heap, the world, the readings -/
namespace DL
open PySem PySem.Spec PyProof.Rows L2

abbrev PD := PyData
abbrev St := L2.St
/-- an outcome: a value, an exception by its number, nothing known -/
inductive R (a : Type) where
  | ok (x : a) | exc (c : Nat) | bad
def R.map {a b : Type} (f : a → b) : R a → R b
  | .ok x => .ok (f x)
  | .exc c => .exc c
  | .bad => .bad
/-- with a state behind it -/
def bnd {a b d : Type} (r : R (a × d)) (k : a → d → R (b × d)) : R (b × d) :=
  match r with
  | .ok (x, s) => k x s
  | .exc c => .exc c
  | .bad => .bad
/-- a pure outcome in a state -/
def lft {a d : Type} (r : R a) (s : d) : R (a × d) :=
  match r with
  | .ok x => .ok (x, s)
  | .exc c => .exc c
  | .bad => .bad
def rbd {a b : Type} (r : R a) (k : a → R b) : R b :=
  match r with
  | .ok x => k x
  | .exc c => .exc c
  | .bad => .bad
@[simp] theorem bnd_ok {a b d : Type} (x : a) (s : d) (k : a → d → R (b × d)) : bnd (.ok (x, s)) k = k x s := rfl
@[simp] theorem bnd_exc {a b d : Type} (c : Nat) (k : a → d → R (b × d)) : bnd (.exc c) k = .exc c := rfl
@[simp] theorem bnd_bad {a b d : Type} (k : a → d → R (b × d)) : bnd .bad k = .bad := rfl
@[simp] theorem lft_ok {a d : Type} (x : a) (s : d) : lft (.ok x) s = .ok (x, s) := rfl
@[simp] theorem lft_exc {a d : Type} (c : Nat) (s : d) : lft (.exc c : R a) s = .exc c := rfl
@[simp] theorem lft_bad {a d : Type} (s : d) : lft (.bad : R a) s = .bad := rfl
@[simp] theorem rbd_ok {a b : Type} (x : a) (k : a → R b) : rbd (.ok x) k = k x := rfl
@[simp] theorem rbd_exc {a b : Type} (c : Nat) (k : a → R b) : rbd (.exc c) k = .exc c := rfl
@[simp] theorem rbd_bad {a b : Type} (k : a → R b) : rbd .bad k = .bad := rfl
abbrev Env := List (Option PD)

/-! ### data in a ghost heap -/
mutual
inductive Dg (G : Hp) : V → PD → Prop
  | non : Dg G .non .none
  | bl (b : Bool) : Dg G (.bl b) (.bool b)
  | int (i : Int) : Dg G (.int i) (.int i)
  | str (x : Str) : Dg G (.str x) (.str x)
  | lst {a : Addr} {xs : List V} {ds : List PD} : G a = some (.lst xs) → DgAll G xs ds → Dg G (.ref a) (.list ds)
  | tup {a : Addr} {xs : List V} {ds : List PD} : G a = some (.tup xs) → DgAll G xs ds → Dg G (.ref a) (.tuple ds)
inductive DgAll (G : Hp) : List V → List PD → Prop
  | nil : DgAll G [] []
  | cons {v : V} {vs : List V} {d : PD} {ds : List PD} : Dg G v d → DgAll G vs ds → DgAll G (v :: vs) (d :: ds)
end
abbrev Sub (G G' : Hp) : Prop := ∀ a o, G a = some o → G' a = some o
section
variable {G G' H : Hp} {v : V} {vs ws : List V} {d : PD} {ds es : List PD}
mutual
theorem Dg.mono (h : Sub G G') : ∀ {v : V} {d : PD}, Dg G v d → Dg G' v d
  | _, _, .non => .non
  | _, _, .bl b => .bl b
  | _, _, .int i => .int i
  | _, _, .str x => .str x
  | _, _, .lst e a => .lst (h _ _ e) (DgAll.mono h a)
  | _, _, .tup e a => .tup (h _ _ e) (DgAll.mono h a)
theorem DgAll.mono (h : Sub G G') : ∀ {vs : List V} {ds : List PD}, DgAll G vs ds → DgAll G' vs ds
  | _, _, .nil => .nil
  | _, _, .cons a b => .cons (Dg.mono h a) (DgAll.mono h b)
end
mutual
theorem Dg.dp {K : PySem.W.Frag} (h : Sub G H) : ∀ {v : V} {d : PD}, Dg G v d → Dp K H v d
  | _, _, .non => .non
  | _, _, .bl b => .bl b
  | _, _, .int i => .int i
  | _, _, .str x => .str x
  | _, _, .lst e a => .lst (SqL.of (h _ _ e)) (DgAll.dp h a)
  | _, _, .tup e a => .tup (SqT.of (h _ _ e)) (DgAll.dp h a)
theorem DgAll.dp {K : PySem.W.Frag} (h : Sub G H) : ∀ {vs : List V} {ds : List PD}, DgAll G vs ds → DpAll K H vs ds
  | _, _, .nil => .nil
  | _, _, .cons a b => .cons (Dg.dp h a) (DgAll.dp h b)
end
theorem DgAll.len : ∀ {vs : List V} {ds : List PD}, DgAll G vs ds → vs.length = ds.length
  | _, _, .nil => rfl
  | _, _, .cons _ b => by simp [b.len]
theorem DgAll.get : ∀ {vs : List V} {ds : List PD} {i : Nat} {d : PD}, DgAll G vs ds → ds[i]? = some d → ∃ v, vs[i]? = some v ∧ Dg G v d
  | _, _, _, _, .nil, e => by simp at e
  | _, _, 0, _, .cons a _, e => by simp at e; subst e; exact ⟨_, rfl, a⟩
  | _, _, i + 1, d, .cons _ b, e => by
    obtain ⟨v, h1, h2⟩ := DgAll.get (i := i) (d := d) b (by simpa using e)
    exact ⟨v, by simpa using h1, h2⟩
theorem DgAll.app : ∀ {vs ws : List V} {ds es : List PD}, DgAll G vs ds → DgAll G ws es → DgAll G (vs ++ ws) (ds ++ es)
  | _, _, _, _, .nil, s => s
  | _, _, _, _, .cons r t, s => .cons r (DgAll.app t s)
theorem DgAll.take : ∀ {vs : List V} {ds : List PD} (n : Nat), DgAll G vs ds → DgAll G (vs.take n) (ds.take n)
  | _, _, 0, _ => .nil
  | _, _, _ + 1, .nil => .nil
  | _, _, n + 1, .cons r t => .cons r (DgAll.take n t)
theorem DgAll.drop : ∀ {vs : List V} {ds : List PD} (n : Nat), DgAll G vs ds → DgAll G (vs.drop n) (ds.drop n)
  | _, _, 0, r => r
  | _, _, _ + 1, .nil => .nil
  | _, _, n + 1, .cons _ t => DgAll.drop n t
theorem DgAll.rev : ∀ {vs : List V} {ds : List PD}, DgAll G vs ds → DgAll G vs.reverse ds.reverse
  | _, _, .nil => .nil
  | _, _, .cons r t => by
    rw [List.reverse_cons, List.reverse_cons]
    exact DgAll.app (DgAll.rev t) (.cons r .nil)
theorem Dg.of_int {i : Int} (h : Dg G v (.int i)) : v = .int i := by cases h; rfl
theorem Dg.of_bl {b : Bool} (h : Dg G v (.bool b)) : v = .bl b := by cases h; rfl
theorem Dg.of_str {x : Str} (h : Dg G v (.str x)) : v = .str x := by cases h; rfl
theorem Dg.of_non (h : Dg G v .none) : v = .non := by cases h; rfl
theorem Dg.of_lst (h : Dg G v (.list ds)) : ∃ a xs, v = .ref a ∧ G a = some (.lst xs) ∧ DgAll G xs ds := by
  cases h with
  | lst e a => exact ⟨_, _, rfl, e, a⟩
theorem Dg.of_tup (h : Dg G v (.tuple ds)) : ∃ a xs, v = .ref a ∧ G a = some (.tup xs) ∧ DgAll G xs ds := by
  cases h with
  | tup e a => exact ⟨_, _, rfl, e, a⟩
theorem DgAll.ints : ∀ {vs : List V} {ns : List Int}, DgAll G vs (ns.map PyData.int) → vs = ns.map V.int
  | _, [], h => by cases h; rfl
  | _, _ :: _, h => by
    cases h with
    | cons a b => rw [a.of_int, DgAll.ints b]; rfl
theorem DgAll.of_ints : ∀ (ns : List Int), DgAll G (ns.map V.int) (ns.map PyData.int)
  | [] => .nil
  | n :: ns => .cons (.int n) (DgAll.of_ints ns)
theorem DgAll.bools : ∀ {vs : List V} {ns : List Bool}, DgAll G vs (ns.map PyData.bool) → vs = ns.map V.bl
  | _, [], h => by cases h; rfl
  | _, _ :: _, h => by
    cases h with
    | cons a b => rw [a.of_bl, DgAll.bools b]; rfl
end

/-! ### the world: tokens, classes of errors, what may change -/
structure Wd where
  d : Type
  fp : Addr → Prop
  rep : d → Hp → Hp → Prop
  tk : Nat → V
  cls : Nat → Addr
  keep : ∀ {s : d} {G H G' H' : Hp}, rep s G H → Sub G G' → (∀ a o, fp a → H a = some o → H' a = some o) → rep s G' H'
def tokD (n : Nat) : PD := .dict [(.int n, .none)]
/-- a value: data, or a token -/
def Rp (tk : Nat → V) (G : Hp) (v : V) (d : PD) : Prop := Dg G v d ∨ ∃ n, d = tokD n ∧ v = tk n
theorem Rp.mono {tk : Nat → V} {G G' : Hp} {v : V} {d : PD} (h : Sub G G') : Rp tk G v d → Rp tk G' v d
  | .inl a => .inl (a.mono h)
  | .inr a => .inr a
/-- what is no token is data -/
theorem Rp.dg {tk : Nat → V} {G : Hp} {v : V} {d : PD} (h : Rp tk G v d) (n : ∀ k, d ≠ tokD k) : Dg G v d := by
  rcases h with h | ⟨k, e, _⟩
  · exact h
  · exact absurd e (n k)
inductive RpAll (tk : Nat → V) (G : Hp) : List V → List PD → Prop
  | nil : RpAll tk G [] []
  | cons {v : V} {vs : List V} {d : PD} {ds : List PD} : Rp tk G v d → RpAll tk G vs ds → RpAll tk G (v :: vs) (d :: ds)
theorem RpAll.mono {tk : Nat → V} {G G' : Hp} (h : Sub G G') : ∀ {vs : List V} {ds : List PD}, RpAll tk G vs ds → RpAll tk G' vs ds
  | _, _, .nil => .nil
  | _, _, .cons a b => .cons (a.mono h) (b.mono h)
theorem RpAll.len {tk : Nat → V} {G : Hp} : ∀ {vs : List V} {ds : List PD}, RpAll tk G vs ds → vs.length = ds.length
  | _, _, .nil => rfl
  | _, _, .cons _ b => by simp [b.len]
theorem RpAll.get {tk : Nat → V} {G : Hp} : ∀ {vs : List V} {ds : List PD} {i : Nat} {d : PD}, RpAll tk G vs ds → ds[i]? = some d → ∃ v, vs[i]? = some v ∧ Rp tk G v d
  | _, _, _, _, .nil, e => by simp at e
  | _, _, 0, _, .cons a _, e => by simp at e; subst e; exact ⟨_, rfl, a⟩
  | _, _, i + 1, d, .cons _ b, e => by
    obtain ⟨v, h1, h2⟩ := RpAll.get (i := i) (d := d) b (by simpa using e)
    exact ⟨v, by simpa using h1, h2⟩
/-- no dict: no token -/
def isD : PD → Bool
  | .dict _ => false
  | _ => true
theorem isD_tok {d : PD} (h : isD d = true) : ∀ k, d ≠ tokD k := fun k e => by subst e; cases h
def allD (ds : List PD) : Bool := ds.all isD
theorem RpAll.dg {tk : Nat → V} {G : Hp} : ∀ {vs : List V} {ds : List PD}, RpAll tk G vs ds → allD ds = true → DgAll G vs ds
  | _, _, .nil, _ => .nil
  | _, _, .cons a b, h => by
    have h' := h
    simp only [allD, List.all_cons, Bool.and_eq_true] at h'
    exact .cons (a.dg (isD_tok h'.1)) (RpAll.dg b h'.2)
theorem DgAll.rp {tk : Nat → V} {G : Hp} : ∀ {vs : List V} {ds : List PD}, DgAll G vs ds → RpAll tk G vs ds
  | _, _, .nil => .nil
  | _, _, .cons a b => .cons (.inl a) (DgAll.rp b)

structure Sit (W : Wd) (G H : Hp) (s : W.d) : Prop where
  sub : Sub G H
  fpG : ∀ a, W.fp a → G a = none
  fpH : ∀ a, W.fp a → H a ≠ none
  rep : W.rep s G H
structure Gr (fp : Addr → Prop) (G H G' H' : Hp) : Prop where
  g : Sub G G'
  h : ∀ a o, ¬ fp a → H a = some o → H' a = some o
  dom : ∀ a, H' a = none → H a = none
  new : ∀ a o, G' a = some o → G a = some o ∨ H a = none
theorem Gr.refl {fp : Addr → Prop} {G H : Hp} : Gr fp G H G H := ⟨fun _ _ h => h, fun _ _ _ h => h, fun _ h => h, fun _ _ h => .inl h⟩
theorem Gr.trans {fp : Addr → Prop} {G H G1 H1 G2 H2 : Hp} (a : Gr fp G H G1 H1) (b : Gr fp G1 H1 G2 H2) : Gr fp G H G2 H2 :=
  ⟨fun x o h => b.g x o (a.g x o h), fun x o n h => b.h x o n (a.h x o n h), fun x h => a.dom x (b.dom x h), fun x o h => by
    rcases b.new x o h with z | z
    · exact a.new x o z
    · exact .inr (a.dom x z)⟩
theorem Gr.weak {fp fp' : Addr → Prop} {G H G1 H1 : Hp} (a : Gr fp G H G1 H1) (h : ∀ x, fp x → fp' x) : Gr fp' G H G1 H1 :=
  ⟨a.g, fun x o n e => a.h x o (fun z => n (h x z)) e, a.dom, a.new⟩
theorem sub_upd {G : Hp} {p : Addr} {o : HO} (h : G p = none) : Sub G (upd G p o) := fun a u e => by
  rw [upd_ne (ne_of_none e h)]; exact e
/-- a new object, in the ghost heap too -/
theorem Gr.alloc {fp : Addr → Prop} {G H : Hp} {p : Addr} {o : HO} (s : Sub G H) (h : H p = none) : Gr fp G H (upd G p o) (upd H p o) := by
  have hg : G p = none := by
    cases e : G p with
    | none => rfl
    | some u => rw [s _ _ e] at h; cases h
  refine ⟨sub_upd hg, fun a u _ e => sub_upd h a u e, fun a e => ?_, fun a u e => ?_⟩
  · by_cases z : a = p
    · subst z; exact h
    · rwa [upd_ne z] at e
  · by_cases z : a = p
    · subst z; exact .inr h
    · rw [upd_ne z] at e; exact .inl e
/-- a new object that only the heap knows -/
theorem Gr.allocH {fp : Addr → Prop} {G H : Hp} {p : Addr} {o : HO} (h : H p = none) : Gr fp G H G (upd H p o) := by
  refine ⟨fun _ _ e => e, fun a u _ e => sub_upd h a u e, fun a e => ?_, fun a u e => .inl e⟩
  by_cases z : a = p
  · subst z; exact h
  · rwa [upd_ne z] at e
theorem Sit.alloc {W : Wd} {G H : Hp} {s : W.d} {p : Addr} {o : HO} (S : Sit W G H s) (h : H p = none) : Sit W (upd G p o) (upd H p o) s := by
  have g := Gr.alloc (fp := W.fp) (o := o) S.sub h
  refine ⟨fun a u e => ?_, fun a f => ?_, fun a f z => S.fpH a f (g.dom a z), W.keep S.rep g.g fun a o _ e => sub_upd h a o e⟩
  · by_cases z : a = p
    · subst z; rw [upd_same] at e ⊢; exact e
    · rw [upd_ne z] at e ⊢; exact S.sub a u e
  · have z : a ≠ p := fun z => S.fpH a f (by rw [z]; exact h)
    rw [upd_ne z]; exact S.fpG a f
theorem Sit.allocH {W : Wd} {G H : Hp} {s : W.d} {p : Addr} {o : HO} (S : Sit W G H s) (h : H p = none) : Sit W G (upd H p o) s := by
  refine ⟨fun a u e => sub_upd h a u (S.sub a u e), S.fpG, fun a f z => S.fpH a f ?_, W.keep S.rep (fun _ _ e => e) fun a o _ e => sub_upd h a o e⟩
  by_cases q : a = p
  · subst q; exact h
  · rwa [upd_ne q] at z
/-- what a pure callee leaves -/
theorem Sit.pure {W : Wd} {G H G' H' : Hp} {s : W.d} (S : Sit W G H s) (g : Gr (fun _ => False) G H G' H') (sb : Sub G' H') : Sit W G' H' s := by
  refine ⟨sb, fun a f => ?_, fun a f z => S.fpH a f (g.dom a z), W.keep S.rep g.g fun a o _ e => g.h a o (fun z => z) e⟩
  cases e : G' a with
  | none => rfl
  | some o =>
    rcases g.new a o e with z | z
    · rw [S.fpG a f] at z; cases z
    · exact absurd z (S.fpH a f)

/-! ### slots -/
structure RS (W : Wd) (G H H0 : Hp) (O : List Nat) (σ : St) (ρ : Env) : Prop where
  len : σ.length = ρ.length
  plain : ∀ i d, ρ[i]? = some (some d) → i ∉ O → ∃ v, σ[i]? = some (some v) ∧ Rp W.tk G v d
  own : ∀ i d, ρ[i]? = some (some d) → i ∈ O → ∃ p vs ds, σ[i]? = some (some (.ref p)) ∧ d = .list ds ∧ H p = some (.lst vs) ∧ DgAll G vs ds ∧ G p = none ∧ H0 p = none ∧ ¬ W.fp p
  apart : ∀ i j p d e, i ∈ O → j ∈ O → ρ[i]? = some (some d) → ρ[j]? = some (some e) → σ[i]? = some (some (.ref p)) → σ[j]? = some (some (.ref p)) → i = j
theorem RS.step {W : Wd} {G H H0 G' H' : Hp} {O : List Nat} {σ : St} {ρ : Env} (r : RS W G H H0 O σ ρ) (g : Gr W.fp G H G' H') : RS W G' H' H0 O σ ρ := by
  refine ⟨r.len, fun i d e n => ?_, fun i d e m => ?_, r.apart⟩
  · obtain ⟨v, h1, h2⟩ := r.plain i d e n
    exact ⟨v, h1, h2.mono g.g⟩
  · obtain ⟨p, vs, ds, h1, h2, h3, h4, h5, h6, h7⟩ := r.own i d e m
    refine ⟨p, vs, ds, h1, h2, g.h p _ h7 h3, h4.mono g.g, ?_, h6, h7⟩
    cases q : G' p with
    | none => rfl
    | some o =>
      rcases g.new p o q with z | z
      · rw [h5] at z; cases z
      · rw [h3] at z; cases z

/-- the base of a body: the world, the entry's heaps, what is wanted of an exception -/
structure Bs where
  W : Wd
  G0 : Hp
  H0 : Hp
  E : XK
structure At (B : Bs) (O : List Nat) (σ : St) (H G : Hp) (ρ : Env) (s : B.W.d) : Prop where
  sit : Sit B.W G H s
  gr : Gr B.W.fp B.G0 B.H0 G H
  rs : RS B.W G H B.H0 O σ ρ
theorem At.step {B : Bs} {O : List Nat} {σ : St} {H G G' H' : Hp} {ρ : Env} {s s' : B.W.d} (a : At B O σ H G ρ s) (g : Gr B.W.fp G H G' H') (S : Sit B.W G' H' s') : At B O σ H' G' ρ s' :=
  ⟨S, a.gr.trans g, a.rs.step g⟩

/-! ### readings -/
abbrev Mx (B : Bs) (a : Type) := Env → B.W.d → R (a × B.W.d)
def PostE (B : Bs) (G H : Hp) (r : R (PD × B.W.d)) (Q : VK) : Prop :=
  match r with
  | .ok (d, s') => ∀ v G' H', Gr B.W.fp G H G' H' → Sit B.W G' H' s' → Rp B.W.tk G' v d → Q v H'
  | .exc c => ∀ G' H', Gr B.W.fp G H G' H' → B.E (.ref (B.W.cls c)) none H'
  | .bad => False
def PostT (B : Bs) (G H : Hp) (r : R (Bool × B.W.d)) (Q : Bool → Hp → Prop) : Prop :=
  match r with
  | .ok (b, s') => ∀ G' H', Gr B.W.fp G H G' H' → Sit B.W G' H' s' → Q b H'
  | .exc c => ∀ G' H', Gr B.W.fp G H G' H' → B.E (.ref (B.W.cls c)) none H'
  | .bad => False
def PostA (B : Bs) (G H : Hp) (r : R (List PD × B.W.d)) (Q : List V → Hp → Prop) : Prop :=
  match r with
  | .ok (ds, s') => ∀ vs G' H', Gr B.W.fp G H G' H' → Sit B.W G' H' s' → RpAll B.W.tk G' vs ds → Q vs H'
  | .exc c => ∀ G' H', Gr B.W.fp G H G' H' → B.E (.ref (B.W.cls c)) none H'
  | .bad => False
theorem PostE.mono {B : Bs} {G H G1 H1 : Hp} {r : R (PD × B.W.d)} {Q : VK} (g : Gr B.W.fp G H G1 H1) (h : PostE B G H r Q) : PostE B G1 H1 r Q := by
  cases r with
  | ok x => exact fun v G' H' g' S' R' => h v G' H' (g.trans g') S' R'
  | exc c => exact fun G' H' g' => h G' H' (g.trans g')
  | bad => exact h
theorem PostT.mono {B : Bs} {G H G1 H1 : Hp} {r : R (Bool × B.W.d)} {Q : Bool → Hp → Prop} (g : Gr B.W.fp G H G1 H1) (h : PostT B G H r Q) : PostT B G1 H1 r Q := by
  cases r with
  | ok x => exact fun G' H' g' S' => h G' H' (g.trans g') S'
  | exc c => exact fun G' H' g' => h G' H' (g.trans g')
  | bad => exact h
theorem PostA.mono {B : Bs} {G H G1 H1 : Hp} {r : R (List PD × B.W.d)} {Q : List V → Hp → Prop} (g : Gr B.W.fp G H G1 H1) (h : PostA B G H r Q) : PostA B G1 H1 r Q := by
  cases r with
  | ok x => exact fun v G' H' g' S' R' => h v G' H' (g.trans g') S' R'
  | exc c => exact fun G' H' g' => h G' H' (g.trans g')
  | bad => exact h
def rdE (B : Bs) (O : List Nat) (f : Mx B PD) : TE := fun σ H Q => ∃ G ρ s, At B O σ H G ρ s ∧ PostE B G H (f ρ s) Q
def rdT (B : Bs) (O : List Nat) (f : Mx B Bool) : TT := fun σ H Q => ∃ G ρ s, At B O σ H G ρ s ∧ PostT B G H (f ρ s) Q
def rdA (B : Bs) (O : List Nat) (f : Mx B (List PD)) : TA := fun σ H Q => ∃ G ρ s, At B O σ H G ρ s ∧ PostA B G H (f ρ s) Q
abbrev DE (X : Cx) (B : Bs) (O : List Nat) (e : Expr) (f : Mx B PD) : Prop := PE X e (rdE B O f)
abbrev DT (X : Cx) (B : Bs) (O : List Nat) (e : Expr) (f : Mx B Bool) : Prop := PT X e (rdT B O f)
abbrev DA (X : Cx) (B : Bs) (O : List Nat) (es : List Expr) (f : Mx B (List PD)) : Prop := PA X es (rdA B O f)
theorem PE.imp {X : Cx} {e : Expr} {t t' : TE} (h : PE X e t) (i : ∀ σ H Q, t' σ H Q → t σ H Q) : PE X e t' := ⟨fun pins s σ H Q I q => h.run pins s σ H Q I (i σ H Q q)⟩
theorem PT.imp {X : Cx} {e : Expr} {t t' : TT} (h : PT X e t) (i : ∀ σ H Q, t' σ H Q → t σ H Q) : PT X e t' := ⟨fun pins s σ H Q I q => h.run pins s σ H Q I (i σ H Q q)⟩
theorem PA.imp {X : Cx} {es : List Expr} {t t' : TA} (h : PA X es t) (i : ∀ σ H Q, t' σ H Q → t σ H Q) : PA X es t' := ⟨fun pos pins s σ H Q I q => h.run pos pins s σ H Q I (i σ H Q q)⟩
theorem PS.imp {X : Cx} {st : Stmt} {t t' : TS} (h : PS X st t) (i : ∀ D σ H, t' D σ H → t D σ H) : PS X st t' := ⟨fun pins s σ H D I q => h.run pins s σ H D I (i D σ H q)⟩
theorem PSs.imp {X : Cx} {st : List Stmt} {t t' : TS} (h : PSs X st t) (i : ∀ D σ H, t' D σ H → t D σ H) : PSs X st t' := ⟨fun pins s σ H D I q => h.run pins s σ H D I (i D σ H q)⟩
theorem PI.imp {X : Cx} {tg e : Expr} {t t' : TI} (h : PI X tg e t) (i : ∀ σ H R, t' σ H R → t σ H R) : PI X tg e t' := ⟨fun pins s σ H R I q => h.run pins s σ H R I (i σ H R q)⟩

/-! ### one step after another -/
/-- an expression first -/
theorem rdE.fst {B : Bs} {O : List Nat} {f : Mx B PD} {σ : St} {H : Hp} {Q : VK} {G : Hp} {ρ : Env} {s : B.W.d} {b : Type} {k : PD → B.W.d → R (b × B.W.d)}
    (a : At B O σ H G ρ s) (P : Hp → Hp → R (b × B.W.d) → Prop) (hm : ∀ {G1 H1 r}, Gr B.W.fp G H G1 H1 → P G H r → P G1 H1 r) (he : ∀ {c}, P G H (.exc c) → ∀ G' H', Gr B.W.fp G H G' H' → B.E (.ref (B.W.cls c)) none H') (hb : ¬ P G H .bad)
    (p : P G H (bnd (f ρ s) k)) (h : ∀ v G1 H1 d s1, At B O σ H1 G1 ρ s1 → Gr B.W.fp G H G1 H1 → Rp B.W.tk G1 v d → P G1 H1 (k d s1) → Q v H1) : rdE B O f σ H Q := by
  refine ⟨G, ρ, s, a, ?_⟩
  cases e : f ρ s with
  | ok x =>
    obtain ⟨d, s1⟩ := x
    rw [e] at p
    exact fun v G1 H1 g S r => h v G1 H1 d s1 (a.step g S) g r (hm g p)
  | exc c => rw [e] at p; exact he p
  | bad => rw [e] at p; exact (hb p).elim
theorem rdE.then {B : Bs} {O : List Nat} {f : Mx B PD} {σ : St} {H : Hp} {Q Q' : VK} {G : Hp} {ρ : Env} {s : B.W.d} {k : PD → B.W.d → R (PD × B.W.d)}
    (a : At B O σ H G ρ s) (p : PostE B G H (bnd (f ρ s) k) Q') (h : ∀ v G1 H1 d s1, At B O σ H1 G1 ρ s1 → Gr B.W.fp G H G1 H1 → Rp B.W.tk G1 v d → PostE B G1 H1 (k d s1) Q' → Q v H1) : rdE B O f σ H Q :=
  rdE.fst a (fun G H r => PostE B G H r Q') (fun g p => p.mono g) (fun p => p) (fun p => p) p h
theorem rdE.thenT {B : Bs} {O : List Nat} {f : Mx B PD} {σ : St} {H : Hp} {Q : VK} {Q' : Bool → Hp → Prop} {G : Hp} {ρ : Env} {s : B.W.d} {k : PD → B.W.d → R (Bool × B.W.d)}
    (a : At B O σ H G ρ s) (p : PostT B G H (bnd (f ρ s) k) Q') (h : ∀ v G1 H1 d s1, At B O σ H1 G1 ρ s1 → Gr B.W.fp G H G1 H1 → Rp B.W.tk G1 v d → PostT B G1 H1 (k d s1) Q' → Q v H1) : rdE B O f σ H Q :=
  rdE.fst a (fun G H r => PostT B G H r Q') (fun g p => p.mono g) (fun p => p) (fun p => p) p h
theorem rdE.thenA {B : Bs} {O : List Nat} {f : Mx B PD} {σ : St} {H : Hp} {Q : VK} {Q' : List V → Hp → Prop} {G : Hp} {ρ : Env} {s : B.W.d} {k : PD → B.W.d → R (List PD × B.W.d)}
    (a : At B O σ H G ρ s) (p : PostA B G H (bnd (f ρ s) k) Q') (h : ∀ v G1 H1 d s1, At B O σ H1 G1 ρ s1 → Gr B.W.fp G H G1 H1 → Rp B.W.tk G1 v d → PostA B G1 H1 (k d s1) Q' → Q v H1) : rdE B O f σ H Q :=
  rdE.fst a (fun G H r => PostA B G H r Q') (fun g p => p.mono g) (fun p => p) (fun p => p) p h
/-- a test first -/
theorem rdT.fst {B : Bs} {O : List Nat} {f : Mx B Bool} {σ : St} {H : Hp} {Q : Bool → Hp → Prop} {G : Hp} {ρ : Env} {s : B.W.d} {b : Type} {k : Bool → B.W.d → R (b × B.W.d)}
    (a : At B O σ H G ρ s) (P : Hp → Hp → R (b × B.W.d) → Prop) (hm : ∀ {G1 H1 r}, Gr B.W.fp G H G1 H1 → P G H r → P G1 H1 r) (he : ∀ {c}, P G H (.exc c) → ∀ G' H', Gr B.W.fp G H G' H' → B.E (.ref (B.W.cls c)) none H') (hb : ¬ P G H .bad)
    (p : P G H (bnd (f ρ s) k)) (h : ∀ x G1 H1 s1, At B O σ H1 G1 ρ s1 → Gr B.W.fp G H G1 H1 → P G1 H1 (k x s1) → Q x H1) : rdT B O f σ H Q := by
  refine ⟨G, ρ, s, a, ?_⟩
  cases e : f ρ s with
  | ok x =>
    obtain ⟨d, s1⟩ := x
    rw [e] at p
    exact fun G1 H1 g S => h d G1 H1 s1 (a.step g S) g (hm g p)
  | exc c => rw [e] at p; exact he p
  | bad => rw [e] at p; exact (hb p).elim
theorem rdT.then {B : Bs} {O : List Nat} {f : Mx B Bool} {σ : St} {H : Hp} {Q : Bool → Hp → Prop} {Q' : VK} {G : Hp} {ρ : Env} {s : B.W.d} {k : Bool → B.W.d → R (PD × B.W.d)}
    (a : At B O σ H G ρ s) (p : PostE B G H (bnd (f ρ s) k) Q') (h : ∀ x G1 H1 s1, At B O σ H1 G1 ρ s1 → Gr B.W.fp G H G1 H1 → PostE B G1 H1 (k x s1) Q' → Q x H1) : rdT B O f σ H Q :=
  rdT.fst a (fun G H r => PostE B G H r Q') (fun g p => p.mono g) (fun p => p) (fun p => p) p h
theorem rdT.thenT {B : Bs} {O : List Nat} {f : Mx B Bool} {σ : St} {H : Hp} {Q : Bool → Hp → Prop} {Q' : Bool → Hp → Prop} {G : Hp} {ρ : Env} {s : B.W.d} {k : Bool → B.W.d → R (Bool × B.W.d)}
    (a : At B O σ H G ρ s) (p : PostT B G H (bnd (f ρ s) k) Q') (h : ∀ x G1 H1 s1, At B O σ H1 G1 ρ s1 → Gr B.W.fp G H G1 H1 → PostT B G1 H1 (k x s1) Q' → Q x H1) : rdT B O f σ H Q :=
  rdT.fst a (fun G H r => PostT B G H r Q') (fun g p => p.mono g) (fun p => p) (fun p => p) p h
/-- arguments first -/
theorem rdA.fst {B : Bs} {O : List Nat} {f : Mx B (List PD)} {σ : St} {H : Hp} {Q : List V → Hp → Prop} {G : Hp} {ρ : Env} {s : B.W.d} {b : Type} {k : List PD → B.W.d → R (b × B.W.d)}
    (a : At B O σ H G ρ s) (P : Hp → Hp → R (b × B.W.d) → Prop) (hm : ∀ {G1 H1 r}, Gr B.W.fp G H G1 H1 → P G H r → P G1 H1 r) (he : ∀ {c}, P G H (.exc c) → ∀ G' H', Gr B.W.fp G H G' H' → B.E (.ref (B.W.cls c)) none H') (hb : ¬ P G H .bad)
    (p : P G H (bnd (f ρ s) k)) (h : ∀ vs G1 H1 ds s1, At B O σ H1 G1 ρ s1 → Gr B.W.fp G H G1 H1 → RpAll B.W.tk G1 vs ds → P G1 H1 (k ds s1) → Q vs H1) : rdA B O f σ H Q := by
  refine ⟨G, ρ, s, a, ?_⟩
  cases e : f ρ s with
  | ok x =>
    obtain ⟨d, s1⟩ := x
    rw [e] at p
    exact fun v G1 H1 g S r => h v G1 H1 d s1 (a.step g S) g r (hm g p)
  | exc c => rw [e] at p; exact he p
  | bad => rw [e] at p; exact (hb p).elim
theorem rdA.then {B : Bs} {O : List Nat} {f : Mx B (List PD)} {σ : St} {H : Hp} {Q : List V → Hp → Prop} {Q' : VK} {G : Hp} {ρ : Env} {s : B.W.d} {k : List PD → B.W.d → R (PD × B.W.d)}
    (a : At B O σ H G ρ s) (p : PostE B G H (bnd (f ρ s) k) Q') (h : ∀ vs G1 H1 ds s1, At B O σ H1 G1 ρ s1 → Gr B.W.fp G H G1 H1 → RpAll B.W.tk G1 vs ds → PostE B G1 H1 (k ds s1) Q' → Q vs H1) : rdA B O f σ H Q :=
  rdA.fst a (fun G H r => PostE B G H r Q') (fun g p => p.mono g) (fun p => p) (fun p => p) p h
theorem rdA.thenA {B : Bs} {O : List Nat} {f : Mx B (List PD)} {σ : St} {H : Hp} {Q : List V → Hp → Prop} {Q' : List V → Hp → Prop} {G : Hp} {ρ : Env} {s : B.W.d} {k : List PD → B.W.d → R (List PD × B.W.d)}
    (a : At B O σ H G ρ s) (p : PostA B G H (bnd (f ρ s) k) Q') (h : ∀ vs G1 H1 ds s1, At B O σ H1 G1 ρ s1 → Gr B.W.fp G H G1 H1 → RpAll B.W.tk G1 vs ds → PostA B G1 H1 (k ds s1) Q' → Q vs H1) : rdA B O f σ H Q :=
  rdA.fst a (fun G H r => PostA B G H r Q') (fun g p => p.mono g) (fun p => p) (fun p => p) p h
/-- a pure end: nothing has changed -/
theorem PostE.done {B : Bs} {G H : Hp} {v : V} {d : PD} {s : B.W.d} {Q : VK} (S : Sit B.W G H s) (r : Rp B.W.tk G v d) (p : PostE B G H (.ok (d, s)) Q) : Q v H := p v G H .refl S r
/-- a new list, a new tuple -/
theorem PostE.lst {B : Bs} {G H : Hp} {vs : List V} {ds : List PD} {s : B.W.d} {Q : VK} {p : Addr} (S : Sit B.W G H s) (r : DgAll G vs ds) (q : PostE B G H (.ok (.list ds, s)) Q) (hp : H p = none) : Q (.ref p) (upd H p (.lst vs)) :=
  have g := Gr.alloc (fp := B.W.fp) (o := .lst vs) S.sub hp
  q (.ref p) _ _ g (S.alloc hp) (.inl (.lst upd_same (r.mono g.g)))
theorem PostE.tup {B : Bs} {G H : Hp} {vs : List V} {ds : List PD} {s : B.W.d} {Q : VK} {p : Addr} (S : Sit B.W G H s) (r : DgAll G vs ds) (q : PostE B G H (.ok (.tuple ds, s)) Q) (hp : H p = none) : Q (.ref p) (upd H p (.tup vs)) :=
  have g := Gr.alloc (fp := B.W.fp) (o := .tup vs) S.sub hp
  q (.ref p) _ _ g (S.alloc hp) (.inl (.tup upd_same (r.mono g.g)))
end DL

/-! DL2: expressions -/
namespace DL
open PySem PySem.Spec PyProof.Rows L2

section
variable {X : Cx} {B : Bs} {O : List Nat}

/-! ### names, constants -/
def cVar {d : Type} (i : Nat) : Env → d → R (PD × d) := fun ρ s =>
  match ρ[i]? with
  | some (some d) => .ok (d, s)
  | _ => .bad
theorem de_var (i : Nat) {x : Str} {pos : Pos} (hN : X.N[i]? = some x := by rfl) (hO : i ∉ O := by decide) (hv : Vis X.env.scope x := by first | exact Or.inl rfl | exact Or.inr (Or.inl rfl) | exact Or.inr (Or.inr rfl)) (hd : (x == ("__debug__" : Str)) = false := by decide)
    (hcd : (x == ("__classdict__" : Str)) = false := by decide) : DE X B O (.Name x pos) (cVar i) := by
  refine PE.imp (pe_var hN hv hd hcd) fun σ H Q h => ?_
  obtain ⟨G, ρ, s, a, p⟩ := h
  unfold cVar at p
  cases e : ρ[i]? with
  | none => rw [e] at p; exact p.elim
  | some y =>
    cases y with
    | none => rw [e] at p; exact p.elim
    | some d =>
      rw [e] at p
      obtain ⟨v, h1, h2⟩ := a.rs.plain i d e hO
      exact ⟨v, h1, p.done a.sit h2⟩
def cC {d : Type} (x : PD) : Env → d → R (PD × d) := fun _ s => .ok (x, s)
theorem de_c {e : Expr} {v : V} {d : PD} (h : PE X e (tC v)) (r : ∀ G, Dg G v d) : DE X B O e (cC d) := by
  refine PE.imp h fun σ H Q h => ?_
  obtain ⟨G, ρ, s, a, p⟩ := h
  exact p.done a.sit (.inl (r G))
theorem de_int {i : Int} {j : Nat} {pos : Pos} : DE X B O (.Constant (.int i) j pos) (cC (.int i)) := de_c pe_int fun _ => .int i
theorem de_bl {b : Bool} {j : Nat} {pos : Pos} : DE X B O (.Constant (.bool b) j pos) (cC (.bool b)) := de_c pe_bl fun _ => .bl b
theorem de_non {j : Nat} {pos : Pos} : DE X B O (.Constant .none j pos) (cC .none) := de_c pe_non fun _ => .non
theorem de_str {x : Str} {j : Nat} {pos : Pos} : DE X B O (.Constant (.str x) j pos) (cC (.str x)) := de_c pe_str fun _ => .str x
/-- a module's constant -/
theorem de_gint {x : Str} {i : Int} {t : Tok} {pos : Pos} (hm : X.mg x = some (.int i t)) (hg : Gl X x := by rfl) (hd : (x == ("__debug__" : Str)) = false := by decide) : DE X B O (.Name x pos) (cC (.int i)) := de_c (pe_glob (v := .int i) hg hm ⟨t, rfl⟩ hd) fun _ => .int i
theorem de_gstr {x z : Str} {t : Tok} {pos : Pos} (hm : X.mg x = some (.str z t)) (hg : Gl X x := by rfl) (hd : (x == ("__debug__" : Str)) = false := by decide) : DE X B O (.Name x pos) (cC (.str z)) := de_c (pe_glob (v := .str z) hg hm ⟨t, rfl⟩ hd) fun _ => .str z

/-! ### operators by values -/
/-- what an operator does with data -/
def PostD (G H : Hp) (r : R PD) (Q : VK) : Prop :=
  match r with
  | .ok d => ∀ v G' H', Gr (fun _ => False) G H G' H' → Sub G' H' → Dg G' v d → Q v H'
  | _ => False
def rdO (f : PD → PD → R PD) : R2 := fun x y H Q => ∃ G d e, Sub G H ∧ Dg G x d ∧ Dg G y e ∧ PostD G H (f d e) Q
def DOp (X : Cx) (g : Value → Value → Sem Value) (f : PD → PD → R PD) : Prop := OpR X g (rdO f)
theorem OpR.imp {X : Cx} {g : Value → Value → Sem Value} {r r' : R2} (h : OpR X g r) (i : ∀ x y H Q, r' x y H Q → r x y H Q) : OpR X g r' :=
  fun pins s σ H x y v u Q I rx ry q => h pins s σ H x y v u Q I rx ry (i x y H Q q)
/-- several rules for one operator, by the data at hand -/
theorem OpR.by {X : Cx} {g : Value → Value → Sem Value} {r' : R2} (h : ∀ x y H Q, r' x y H Q → ∃ r, OpR X g r ∧ r x y H Q) : OpR X g r' :=
  fun pins s σ H x y v u Q I rx ry q => by
    obtain ⟨r, hr, q'⟩ := h x y H Q q
    exact hr pins s σ H x y v u Q I rx ry q'
theorem PostD.val {G H : Hp} {d : PD} {v : V} {Q : VK} (p : PostD G H (.ok d) Q) (sb : Sub G H) (r : Dg G v d) : Q v H := p v G H .refl sb r
theorem subA {G H : Hp} {p : Addr} {o : HO} (s : Sub G H) (h : H p = none) : Sub (upd G p o) (upd H p o) := fun a u e => by
  by_cases z : a = p
  · subst z; rw [upd_same] at e ⊢; exact e
  · rw [upd_ne z] at e ⊢; exact s a u e
theorem PostD.lst {G H : Hp} {ds : List PD} {vs : List V} {Q : VK} {p : Addr} (q : PostD G H (.ok (.list ds)) Q) (sb : Sub G H) (r : DgAll G vs ds) (hp : H p = none) : Q (.ref p) (upd H p (.lst vs)) :=
  have g := Gr.alloc (fp := fun _ => False) (o := .lst vs) sb hp
  q (.ref p) _ _ g (subA sb hp) (.lst upd_same (r.mono g.g))
theorem PostD.tup {G H : Hp} {ds : List PD} {vs : List V} {Q : VK} {p : Addr} (q : PostD G H (.ok (.tuple ds)) Q) (sb : Sub G H) (r : DgAll G vs ds) (hp : H p = none) : Q (.ref p) (upd H p (.tup vs)) :=
  have g := Gr.alloc (fp := fun _ => False) (o := .tup vs) sb hp
  q (.ref p) _ _ g (subA sb hp) (.tup upd_same (r.mono g.g))
/-- from data to the world around -/
theorem PostD.of {G H : Hp} {r : R PD} {Q : VK} {s : B.W.d} (S : Sit B.W G H s) (p : PostE B G H (lft r s) Q) (hx : ∀ c, r ≠ .exc c) : PostD G H r Q := by
  cases r with
  | ok d => exact fun v G' H' g sb rp => p v G' H' (g.weak fun _ z => z.elim) (S.pure g sb) (.inl rp)
  | exc c => exact (hx c rfl).elim
  | bad => exact p
def isOk (r : R PD) : R PD := match r with
  | .ok d => .ok d
  | _ => .bad
/-- two data, one operation; tokens are none -/
def cOp {d : Type} (f : PD → PD → R PD) (a b : Env → d → R (PD × d)) : Env → d → R (PD × d) := fun ρ s =>
  bnd (a ρ s) fun x s1 => bnd (b ρ s1) fun y s2 => if isD x && isD y then lft (isOk (f x y)) s2 else .bad
theorem isOk_nx (r : R PD) (c : Nat) : isOk r ≠ .exc c := by cases r <;> simp [isOk]
theorem PostD.isOk {G H : Hp} {r : R PD} {Q : VK} (p : PostD G H (isOk r) Q) : PostD G H r Q := by
  cases r with
  | ok d => exact p
  | exc c => exact p
  | bad => exact p
theorem rd_op {f : PD → PD → R PD} {fa fb : Mx B PD} {σ : St} {H : Hp} {Q : VK} (h : rdE B O (cOp f fa fb) σ H Q) : tOp (rdO f) (rdE B O fa) (rdE B O fb) σ H Q := by
  obtain ⟨G, ρ, s, a, p⟩ := h
  refine rdE.then a p fun x G1 H1 dx s1 a1 g1 rx p1 => ?_
  refine rdE.then a1 p1 fun y G2 H2 dy s2 a2 g2 ry p2 => ?_
  by_cases hd : (isD dx && isD dy) = true
  · rw [if_pos hd] at p2
    have h' := hd
    rw [Bool.and_eq_true] at h'
    exact ⟨G2, dx, dy, a2.sit.sub, (rx.mono g2.g).dg (isD_tok h'.1), ry.dg (isD_tok h'.2), (PostD.of a2.sit p2 (isOk_nx _)).isOk⟩
  · rw [if_neg hd] at p2; exact p2.elim
theorem de_op {op : Operator} {f : PD → PD → R PD} {a b : Expr} {fa fb : Mx B PD} {pos : Pos} (ho : DOp X (binaryOp op) f) (ha : DE X B O a fa) (hb : DE X B O b fb) : DE X B O (.BinOp a op b pos) (cOp f fa fb) :=
  PE.imp (pe_op ho ha hb) fun σ H Q h => rd_op h
theorem de_cmp {op : CmpOp} {f : PD → PD → R PD} {a b : Expr} {fa fb : Mx B PD} {pos : Pos} (ho : DOp X (compareOp op) f) (ha : DE X B O a fa) (hb : DE X B O b fb) (hm : behindInMarks op b = false := by first | exact nobehind _ (by decide) (by decide) | rfl) : DE X B O (.Compare a [op] [b] pos) (cOp f fa fb) :=
  PE.imp (pe_cmpR ho ha hb hm) fun σ H Q h => rd_op h
/-- one operand -/
def rdU (f : PD → R PD) : V → Hp → VK → Prop := fun x H Q => ∃ G d, Sub G H ∧ Dg G x d ∧ PostD G H (f d) Q
def cUn {d : Type} (f : PD → R PD) (a : Env → d → R (PD × d)) : Env → d → R (PD × d) := fun ρ s =>
  bnd (a ρ s) fun x s1 => if isD x then lft (isOk (f x)) s1 else .bad
theorem rd_un {f : PD → R PD} {fa : Mx B PD} {σ : St} {H : Hp} {Q : VK} (h : rdE B O (cUn f fa) σ H Q) : tUn (rdU f) (rdE B O fa) σ H Q := by
  obtain ⟨G, ρ, s, a, p⟩ := h
  refine rdE.then a p fun x G1 H1 dx s1 a1 g1 rx p1 => ?_
  by_cases hd : isD dx = true
  · rw [if_pos hd] at p1
    exact ⟨G1, dx, a1.sit.sub, rx.dg (isD_tok hd), (PostD.of a1.sit p1 (isOk_nx _)).isOk⟩
  · rw [if_neg hd] at p1; exact p1.elim
theorem de_un {op : UnaryOp} {f : PD → R PD} {a : Expr} {fa : Mx B PD} {pos : Pos} (ho : UnR X (unaryOp op) (rdU f)) (ha : DE X B O a fa) : DE X B O (.UnaryOp op a pos) (cUn f fa) :=
  PE.imp (pe_un ho ha) fun σ H Q h => rd_un h

/-! ### the operators -/
def pAdd : PD → PD → R PD
  | .int i, .int j => .ok (.int (i + j))
  | .list xs, .list ys => if xs.length + ys.length ≤ sizeLine then .ok (.list (xs ++ ys)) else .bad
  | .str x, .str y => if x.length + y.length ≤ sizeLine then .ok (.str (x ++ y)) else .bad
  | .tuple xs, .tuple ys => if xs.length + ys.length ≤ sizeLine ∧ 0 < xs.length ∧ 0 < ys.length then .ok (.tuple (xs ++ ys)) else .bad
  | _, _ => .bad
theorem dop_add : DOp X (binaryOp .Add) pAdd := by
  refine OpR.by fun x y H Q h => ?_
  obtain ⟨G, d, e, sb, rx, ry, p⟩ := h
  unfold pAdd at p
  split at p
  · exact ⟨_, op_add, _, _, rx.of_int, ry.of_int, p.val sb (.int _)⟩
  · rename_i xs ys
    split at p
    · rename_i hl
      obtain ⟨a, vs, rfl, ga, da⟩ := rx.of_lst
      obtain ⟨b, ws, rfl, gb, db⟩ := ry.of_lst
      exact ⟨_, op_cat, _, _, _, _, rfl, rfl, sb _ _ ga, sb _ _ gb, by rw [da.len, db.len]; exact hl, fun q hq => p.lst sb (da.app db) hq⟩
    · exact p.elim
  · rename_i xs ys
    split at p
    · rename_i hl
      exact ⟨_, op_add_str, _, _, rx.of_str, ry.of_str, hl, p.val sb (.str _)⟩
    · exact p.elim
  · rename_i xs ys
    split at p
    · rename_i hl
      obtain ⟨a, vs, rfl, ga, da⟩ := rx.of_tup
      obtain ⟨b, ws, rfl, gb, db⟩ := ry.of_tup
      refine ⟨_, op_catT, _, _, _, _, rfl, rfl, SqT.of (sb _ _ ga), SqT.of (sb _ _ gb), ?_, by rw [da.len, db.len]; exact hl.1, ?_, fun q hq => ?_⟩
      · intro z; have := da.len; rw [z] at this; simp at this; omega
      · intro z; have := db.len; rw [z] at this; simp at this; omega
      · exact fun hq2 => p.tup sb (da.app db) hq2
    · exact p.elim
  · exact p.elim
def pSub : PD → PD → R PD
  | .int i, .int j => .ok (.int (i - j))
  | _, _ => .bad
theorem dop_sub : DOp X (binaryOp .Sub) pSub := by
  refine OpR.by fun x y H Q h => ?_
  obtain ⟨G, d, e, sb, rx, ry, p⟩ := h
  unfold pSub at p
  split at p
  · exact ⟨_, op_sub, _, _, rx.of_int, ry.of_int, p.val sb (.int _)⟩
  · exact p.elim
def mulOk (i j : Int) : Bool := (decide (-(2 ^ 64) < i) && decide (i < 2 ^ 64)) || (decide (-(2 ^ 64) < j) && decide (j < 2 ^ 64))
def pMul : PD → PD → R PD
  | .int i, .int j => if mulOk i j then .ok (.int (i * j)) else .bad
  | .list xs, .int k => if (decide (-(2 ^ 63) ≤ k) && decide (k < 2 ^ 63) && decide (xs.length * k.toNat ≤ sizeLine)) then .ok (.list (List.replicate k.toNat xs).flatten) else .bad
  | _, _ => .bad
theorem DgAll.rep {G : Hp} {vs : List V} {ds : List PD} (h : DgAll G vs ds) : ∀ n : Nat, DgAll G (List.replicate n vs).flatten (List.replicate n ds).flatten
  | 0 => .nil
  | n + 1 => by
    rw [List.replicate_succ, List.replicate_succ, List.flatten_cons, List.flatten_cons]
    exact h.app (DgAll.rep h n)
theorem dop_mul : DOp X (binaryOp .Mult) pMul := by
  refine OpR.by fun x y H Q h => ?_
  obtain ⟨G, d, e, sb, rx, ry, p⟩ := h
  unfold pMul at p
  split at p
  · rename_i i j
    split at p
    · rename_i hm
      refine ⟨_, op_mul, _, _, rx.of_int, ry.of_int, ?_, p.val sb (.int _)⟩
      unfold mulOk at hm
      simp only [Bool.or_eq_true, Bool.and_eq_true, decide_eq_true_eq] at hm
      exact hm
    · exact p.elim
  · rename_i xs k
    split at p
    · rename_i hm
      simp only [Bool.and_eq_true, decide_eq_true_eq] at hm
      obtain ⟨a, vs, rfl, ga, da⟩ := rx.of_lst
      exact ⟨_, op_rep, _, _, _, rfl, ry.of_int, sb _ _ ga, hm.1.1, hm.1.2, by rw [da.len]; exact hm.2, fun q hq => p.lst sb (da.rep _) hq⟩
    · exact p.elim
  · exact p.elim
def pDiv : PD → PD → R PD
  | .int i, .int j => if decide (0 < j) && decide (j < 1073741824) then .ok (.int (i / j)) else .bad
  | _, _ => .bad
theorem dop_div : DOp X (binaryOp .FloorDiv) pDiv := by
  refine OpR.by fun x y H Q h => ?_
  obtain ⟨G, d, e, sb, rx, ry, p⟩ := h
  unfold pDiv at p
  split at p
  · split at p
    · rename_i hm
      simp only [Bool.and_eq_true, decide_eq_true_eq] at hm
      exact ⟨_, op_fdiv, _, _, rx.of_int, ry.of_int, hm, p.val sb (.int _)⟩
    · exact p.elim
  · exact p.elim
def pMod : PD → PD → R PD
  | .int i, .int j => if 0 < j then .ok (.int (i % j)) else .bad
  | _, _ => .bad
theorem dop_mod : DOp X (binaryOp .Mod) pMod := by
  refine OpR.by fun x y H Q h => ?_
  obtain ⟨G, d, e, sb, rx, ry, p⟩ := h
  unfold pMod at p
  split at p
  · split at p
    · rename_i hm
      exact ⟨_, op_mod, _, _, rx.of_int, ry.of_int, hm, p.val sb (.int _)⟩
    · exact p.elim
  · exact p.elim
def pPow : PD → PD → R PD
  | .int i, .int j => if decide (0 ≤ j) && decide (j ≤ 1000000) && decide (i.natAbs < 2 ^ 64) then .ok (.int (i ^ j.toNat)) else .bad
  | _, _ => .bad
theorem dop_pow : DOp X (binaryOp .Pow) pPow := by
  refine OpR.by fun x y H Q h => ?_
  obtain ⟨G, d, e, sb, rx, ry, p⟩ := h
  unfold pPow at p
  split at p
  · split at p
    · rename_i hm
      simp only [Bool.and_eq_true, decide_eq_true_eq] at hm
      exact ⟨_, op_pow, _, _, rx.of_int, ry.of_int, ⟨hm.1.1, hm.1.2, hm.2⟩, p.val sb (.int _)⟩
    · exact p.elim
  · exact p.elim
def pNeg : PD → R PD
  | .int i => .ok (.int (-i))
  | _ => .bad
theorem dun_neg : UnR X (unaryOp .USub) (rdU pNeg) := by
  intro pins s σ H x v Q I rx h
  obtain ⟨G, d, sb, rx', p⟩ := h
  unfold pNeg at p
  split at p
  · exact un_neg pins s σ H x v Q I rx ⟨_, rx'.of_int, p.val sb (.int _)⟩
  · exact p.elim
/-- comparisons of ints -/
def pCmp (c : Int → Int → Bool) : PD → PD → R PD
  | .int i, .int j => .ok (.bool (c i j))
  | _, _ => .bad
theorem dop_cmp {g : Value → Value → Sem Value} {c : Int → Int → Bool} (ho : OpR X g (rI0 fun i j => .bl (c i j))) : DOp X g (pCmp c) := by
  refine OpR.by fun x y H Q h => ?_
  obtain ⟨G, d, e, sb, rx, ry, p⟩ := h
  unfold pCmp at p
  split at p
  · exact ⟨_, ho, _, _, rx.of_int, ry.of_int, p.val sb (.bl _)⟩
  · exact p.elim
abbrev pLt := pCmp fun i j => decide (i < j)
abbrev pLe := pCmp fun i j => decide (i ≤ j)
abbrev pGt := pCmp fun i j => decide (j < i)
abbrev pGe := pCmp fun i j => decide (j ≤ i)
theorem dop_lt : DOp X (compareOp .Lt) pLt := dop_cmp op_lt
theorem dop_le : DOp X (compareOp .LtE) pLe := dop_cmp op_le
theorem dop_gt : DOp X (compareOp .Gt) pGt := dop_cmp op_gt
theorem dop_ge : DOp X (compareOp .GtE) pGe := dop_cmp op_ge
/-- ==, != of data -/
def pEq : PD → PD → R PD := fun d e => if SeqAt.shaped d && SeqAt.shaped e then .ok (.bool (PyData.eqv d e)) else .bad
def pNe : PD → PD → R PD := fun d e => if SeqAt.shaped d && SeqAt.shaped e then .ok (.bool (!PyData.eqv d e)) else .bad
theorem dop_eq (hu : X.A.units + 64 < cLine) : DOp X (compareOp .Eq) pEq := by
  refine OpR.by fun x y H Q h => ?_
  obtain ⟨G, d, e, sb, rx, ry, p⟩ := h
  unfold pEq at p
  split at p
  · rename_i hm
    rw [Bool.and_eq_true] at hm
    exact ⟨_, op_eqD hu, d, e, rx.dp sb, ry.dp sb, hm.1, hm.2, p.val sb (.bl _)⟩
  · exact p.elim
theorem dop_ne (hu : X.A.units + 64 < cLine) : DOp X (compareOp .NotEq) pNe := by
  refine OpR.by fun x y H Q h => ?_
  obtain ⟨G, d, e, sb, rx, ry, p⟩ := h
  unfold pNe at p
  split at p
  · rename_i hm
    rw [Bool.and_eq_true] at hm
    exact ⟨_, op_neD hu, d, e, rx.dp sb, ry.dp sb, hm.1, hm.2, p.val sb (.bl _)⟩
  · exact p.elim
/-- in, not in a list -/
def pIn : PD → PD → R PD
  | d, .list ds => if SeqAt.shaped d && SeqAt.shaped (.list ds) then .ok (.bool (ds.any fun z => PyData.eqv z d)) else .bad
  | _, _ => .bad
def pNotIn : PD → PD → R PD
  | d, .list ds => if SeqAt.shaped d && SeqAt.shaped (.list ds) then .ok (.bool (!ds.any fun z => PyData.eqv z d)) else .bad
  | _, _ => .bad
theorem dop_in (hu : X.A.units + 65 < cLine) : DOp X (compareOp .In) pIn := by
  refine OpR.by fun x y H Q h => ?_
  obtain ⟨G, d, e, sb, rx, ry, p⟩ := h
  unfold pIn at p
  split at p
  · split at p
    · rename_i hm
      rw [Bool.and_eq_true] at hm
      exact ⟨_, op_inD hu, d, _, rx.dp sb, ry.dp sb, hm.1, hm.2, p.val sb (.bl _)⟩
    · exact p.elim
  · exact p.elim
theorem dop_notIn (hu : X.A.units + 65 < cLine) : DOp X (compareOp .NotIn) pNotIn := by
  refine OpR.by fun x y H Q h => ?_
  obtain ⟨G, d, e, sb, rx, ry, p⟩ := h
  unfold pNotIn at p
  split at p
  · split at p
    · rename_i hm
      rw [Bool.and_eq_true] at hm
      exact ⟨_, op_notInD hu, d, _, rx.dp sb, ry.dp sb, hm.1, hm.2, p.val sb (.bl _)⟩
    · exact p.elim
  · exact p.elim
/-- is, is not: of bools, of None on the right -/
def isNone : PD → Bool
  | .none => true
  | _ => false
def pIs : PD → PD → R PD
  | .bool a, .bool b => .ok (.bool (decide (a = b)))
  | d, .none => .ok (.bool (isNone d))
  | _, _ => .bad
def pIsNot : PD → PD → R PD
  | .bool a, .bool b => .ok (.bool (!decide (a = b)))
  | d, .none => .ok (.bool (!isNone d))
  | _, _ => .bad
theorem isNone_of {G : Hp} {v : V} {d : PD} (h : Dg G v d) : decide (v = .non) = isNone d := by
  cases h <;> first | rfl | exact decide_eq_false fun z => nomatch z
theorem dop_is : DOp X (compareOp .Is) pIs := by
  refine OpR.by fun x y H Q h => ?_
  obtain ⟨G, d, e, sb, rx, ry, p⟩ := h
  unfold pIs at p
  split at p
  · exact ⟨_, op_isBl, _, _, rx.of_bl, ry.of_bl, p.val sb (.bl _)⟩
  · refine ⟨_, op_isN, ry.of_non, ?_⟩
    rw [isNone_of rx]
    exact p.val sb (.bl _)
  · exact p.elim
theorem dop_isNot : DOp X (compareOp .IsNot) pIsNot := by
  refine OpR.by fun x y H Q h => ?_
  obtain ⟨G, d, e, sb, rx, ry, p⟩ := h
  unfold pIsNot at p
  split at p
  · exact ⟨_, op_notBl, _, _, rx.of_bl, ry.of_bl, p.val sb (.bl _)⟩
  · refine ⟨_, op_notN, ry.of_non, ?_⟩
    rw [isNone_of rx]
    exact p.val sb (.bl _)
  · exact p.elim

/-! ### tests -/
def cTest {d : Type} (a : Env → d → R (PD × d)) : Env → d → R (Bool × d) := fun ρ s =>
  bnd (a ρ s) fun x s1 => match x with
    | .bool b => .ok (b, s1)
    | _ => .bad
theorem PostT.done {G H : Hp} {b : Bool} {s : B.W.d} {Q : Bool → Hp → Prop} (S : Sit B.W G H s) (p : PostT B G H (.ok (b, s)) Q) : Q b H := p G H .refl S
theorem rd_test {fa : Mx B PD} {σ : St} {H : Hp} {Q : Bool → Hp → Prop} (h : rdT B O (cTest fa) σ H Q) : rdE B O fa σ H fun x H1 => ∃ c, x = .bl c ∧ Q c H1 := by
  obtain ⟨G, ρ, s, a, p⟩ := h
  refine rdE.thenT a p fun x G1 H1 dx s1 a1 g1 rx p1 => ?_
  cases dx with
  | bool b => exact ⟨b, (rx.dg (isD_tok rfl)).of_bl, p1.done a1.sit⟩
  | _ => exact p1.elim
/-- an expression whose value is a bool -/
theorem dt_val {e : Expr} {f : Mx B PD} (h : DE X B O e f) (he : ∀ whole, isTrue e X.env whole = (do let v ← whole; standAt e.pos; holding [v] (truthy v)) := by intro _; rfl) : DT X B O e (cTest f) :=
  PT.imp (pt_val h he) fun σ H Q h => rd_test h
theorem dt_cmp {op : CmpOp} {f : PD → PD → R PD} {a b : Expr} {fa fb : Mx B PD} {pos : Pos} (ho : DOp X (compareOp op) f) (ha : DE X B O a fa) (hb : DE X B O b fb) (hm : behindInMarks op b = false := by first | exact nobehind _ (by decide) (by decide) | rfl) : DT X B O (.Compare a [op] [b] pos) (cTest (cOp f fa fb)) :=
  PT.imp (pt_cmpR ho ha hb hm) fun σ H Q h => by
    obtain ⟨G, ρ, s, a, p⟩ := rd_test h
    exact rd_op ⟨G, ρ, s, a, p⟩
end
end DL

/-! DL3: and, or, not, chains, arguments, displays, subscripts -/
namespace DL
open PySem PySem.Spec PyProof.Rows L2
section
variable {X : Cx} {B : Bs} {O : List Nat}
abbrev DW (X : Cx) (B : Bs) (O : List Nat) (e : Expr) (f : Mx B Bool) : Prop := PW X e (rdT B O f)
theorem PW.imp {e : Expr} {t t' : TT} (h : PW X e t) (i : ∀ σ H Q, t' σ H Q → t σ H Q) : PW X e t' := ⟨fun wh pins s σ H Q I q => h.run wh pins s σ H Q I (i σ H Q q)⟩
def cAndT {d : Type} (a b : Env → d → R (Bool × d)) : Env → d → R (Bool × d) := fun ρ s => bnd (a ρ s) fun x s1 => if x = true then b ρ s1 else .ok (false, s1)
def cOrT {d : Type} (a b : Env → d → R (Bool × d)) : Env → d → R (Bool × d) := fun ρ s => bnd (a ρ s) fun x s1 => if x = true then .ok (true, s1) else b ρ s1
def cNotT {d : Type} (a : Env → d → R (Bool × d)) : Env → d → R (Bool × d) := fun ρ s => bnd (a ρ s) fun x s1 => .ok (!x, s1)
theorem dw_and1 {a : Expr} {fa : Mx B Bool} {pos : Pos} (ha : DT X B O a fa) : DW X B O (.BoolOp .And [a] pos) fa := pw_and1 ha
theorem dw_or1 {a : Expr} {fa : Mx B Bool} {pos : Pos} (ha : DT X B O a fa) : DW X B O (.BoolOp .Or [a] pos) fa := pw_or1 ha
theorem dw_and {a b : Expr} {rest : List Expr} {fa fb : Mx B Bool} {pos : Pos} (ha : DT X B O a fa) (hb : DW X B O (.BoolOp .And (b :: rest) pos) fb) : DW X B O (.BoolOp .And (a :: b :: rest) pos) (cAndT fa fb) :=
  PW.imp (pw_and ha hb) fun σ H Q h => by
    obtain ⟨G, ρ, s, a, p⟩ := h
    refine rdT.thenT a p fun x G1 H1 s1 a1 g1 p1 => ?_
    cases x with
    | true => exact ⟨G1, ρ, s1, a1, p1⟩
    | false => exact p1.done a1.sit
theorem dw_or {a b : Expr} {rest : List Expr} {fa fb : Mx B Bool} {pos : Pos} (ha : DT X B O a fa) (hb : DW X B O (.BoolOp .Or (b :: rest) pos) fb) : DW X B O (.BoolOp .Or (a :: b :: rest) pos) (cOrT fa fb) :=
  PW.imp (pw_or ha hb) fun σ H Q h => by
    obtain ⟨G, ρ, s, a, p⟩ := h
    refine rdT.thenT a p fun x G1 H1 s1 a1 g1 p1 => ?_
    cases x with
    | true => exact p1.done a1.sit
    | false => exact ⟨G1, ρ, s1, a1, p1⟩
theorem dt_bool {e : Expr} {f : Mx B Bool} (h : DW X B O e f) : DT X B O e f := h.pt
theorem dt_not {a : Expr} {fa : Mx B Bool} {pos : Pos} (ha : DT X B O a fa) : DT X B O (.UnaryOp .Not a pos) (cNotT fa) :=
  PT.imp (pt_not ha) fun σ H Q h => by
    obtain ⟨G, ρ, s, a, p⟩ := h
    exact rdT.thenT a p fun x G1 H1 s1 a1 g1 p1 => p1.done a1.sit
/-! as values -/
def cAndV {d : Type} (a b : Env → d → R (PD × d)) : Env → d → R (PD × d) := fun ρ s => bnd (a ρ s) fun x s1 => match x with
  | .bool true => b ρ s1
  | .bool false => .ok (.bool false, s1)
  | _ => .bad
def cOrV {d : Type} (a b : Env → d → R (PD × d)) : Env → d → R (PD × d) := fun ρ s => bnd (a ρ s) fun x s1 => match x with
  | .bool true => .ok (.bool true, s1)
  | .bool false => b ρ s1
  | _ => .bad
def pNot : PD → R PD
  | .bool b => .ok (.bool (!b))
  | _ => .bad
theorem de_one {op : BoolOp} {a : Expr} {fa : Mx B PD} {pos : Pos} (ha : DE X B O a fa) : DE X B O (.BoolOp op [a] pos) fa := pe_one ha
theorem de_and {a b : Expr} {rest : List Expr} {fa fb : Mx B PD} {pos : Pos} (ha : DE X B O a fa) (hb : DE X B O (.BoolOp .And (b :: rest) pos) fb) : DE X B O (.BoolOp .And (a :: b :: rest) pos) (cAndV fa fb) :=
  PE.imp (pe_and ha hb) fun σ H Q h => by
    obtain ⟨G, ρ, s, a, p⟩ := h
    refine rdE.then a p fun x G1 H1 dx s1 a1 g1 rx p1 => ?_
    cases dx with
    | bool b =>
      refine ⟨b, (rx.dg (isD_tok rfl)).of_bl, ?_⟩
      cases b with
      | true => exact ⟨G1, ρ, s1, a1, p1⟩
      | false => exact p1.done a1.sit (.inl (.bl false))
    | _ => exact p1.elim
theorem de_or {a b : Expr} {rest : List Expr} {fa fb : Mx B PD} {pos : Pos} (ha : DE X B O a fa) (hb : DE X B O (.BoolOp .Or (b :: rest) pos) fb) : DE X B O (.BoolOp .Or (a :: b :: rest) pos) (cOrV fa fb) :=
  PE.imp (pe_or ha hb) fun σ H Q h => by
    obtain ⟨G, ρ, s, a, p⟩ := h
    refine rdE.then a p fun x G1 H1 dx s1 a1 g1 rx p1 => ?_
    cases dx with
    | bool b =>
      refine ⟨b, (rx.dg (isD_tok rfl)).of_bl, ?_⟩
      cases b with
      | true => exact p1.done a1.sit (.inl (.bl true))
      | false => exact ⟨G1, ρ, s1, a1, p1⟩
    | _ => exact p1.elim
theorem de_not {a : Expr} {fa : Mx B PD} {pos : Pos} (ha : DE X B O a fa) : DE X B O (.UnaryOp .Not a pos) (cUn pNot fa) :=
  PE.imp (pe_not ha) fun σ H Q h => by
    obtain ⟨G, ρ, s, a, p⟩ := h
    refine rdE.then a p fun x G1 H1 dx s1 a1 g1 rx p1 => ?_
    cases dx with
    | bool b => exact ⟨b, (rx.dg (isD_tok rfl)).of_bl, p1.done a1.sit (.inl (.bl _))⟩
    | dict _ => exact p1.elim
    | _ => exact p1.elim
def cIf {d : Type} (t : Env → d → R (Bool × d)) (a b : Env → d → R (PD × d)) : Env → d → R (PD × d) := fun ρ s => bnd (t ρ s) fun x s1 => if x = true then a ρ s1 else b ρ s1
theorem de_if {c a b : Expr} {fc : Mx B Bool} {fa fb : Mx B PD} {pos : Pos} (hc : DT X B O c fc) (ha : DE X B O a fa) (hb : DE X B O b fb) : DE X B O (.IfExp c a b pos) (cIf fc fa fb) :=
  PE.imp (pe_ifExp hc ha hb) fun σ H Q h => by
    obtain ⟨G, ρ, s, a, p⟩ := h
    refine rdT.then a p fun x G1 H1 s1 a1 g1 p1 => ?_
    cases x with
    | true => exact ⟨G1, ρ, s1, a1, p1⟩
    | false => exact ⟨G1, ρ, s1, a1, p1⟩
/-! a chain of two comparisons -/
def cChain {d : Type} (f g : PD → PD → R PD) (a b c : Env → d → R (PD × d)) : Env → d → R (PD × d) := fun ρ s =>
  bnd (a ρ s) fun x s1 => bnd (b ρ s1) fun y s2 => if isD x && isD y then
    bnd (lft (isOk (f x y)) s2) fun z s3 => match z with
      | .bool true => bnd (c ρ s3) fun w s4 => if isD w then lft (isOk (g y w)) s4 else .bad
      | .bool false => .ok (.bool false, s3)
      | _ => .bad
    else .bad
theorem PostD.ofK {G H : Hp} {r : R PD} {Q : VK} {s : B.W.d} (S : Sit B.W G H s) (hx : ∀ c, r ≠ .exc c) (hb : r ≠ .bad) (p : ∀ d, r = .ok d → ∀ v G' H', Gr B.W.fp G H G' H' → Sit B.W G' H' s → Dg G' v d → Q v H') : PostD G H r Q := by
  cases r with
  | ok d => exact fun v G' H' g sb rp => p d rfl v G' H' (g.weak fun _ z => z.elim) (S.pure g sb) rp
  | exc c => exact (hx c rfl).elim
  | bad => exact hb rfl
theorem rd_chain {f g : PD → PD → R PD} {fa fb fc : Mx B PD} {σ : St} {H : Hp} {Q : VK} (h : rdE B O (cChain f g fa fb fc) σ H Q) : tChain (rdO f) (rdO g) (rdE B O fa) (rdE B O fb) (rdE B O fc) σ H Q := by
  obtain ⟨G, ρ, s, a, p⟩ := h
  refine rdE.then a p fun x G1 H1 dx s1 a1 g1 rx p1 => ?_
  refine rdE.then a1 p1 fun y G2 H2 dy s2 a2 g2 ry p2 => ?_
  by_cases hd : (isD dx && isD dy) = true
  · rw [if_pos hd] at p2
    have h' := hd
    rw [Bool.and_eq_true] at h'
    have hy := ry.dg (isD_tok h'.2)
    refine ⟨G2, dx, dy, a2.sit.sub, (rx.mono g2.g).dg (isD_tok h'.1), hy, PostD.isOk (PostD.ofK (r := isOk (f dx dy)) a2.sit (isOk_nx _) ?_ fun d e v G3 H3 g3 S3 rv => ?_)⟩
    · intro z; rw [z] at p2; exact p2
    · rw [e] at p2
      cases d with
      | bool b =>
        refine ⟨b, rv.of_bl, ?_⟩
        cases b with
        | true =>
          refine rdE.then (a2.step g3 S3) (PostE.mono g3 p2) fun w G4 H4 dw s4 a4 g4 rw' p4 => ?_
          by_cases hw : isD dw = true
          · rw [if_pos hw] at p4
            exact ⟨G4, dy, dw, a4.sit.sub, (hy.mono g3.g).mono g4.g, rw'.dg (isD_tok hw), (PostD.of a4.sit p4 (isOk_nx _)).isOk⟩
          · rw [if_neg hw] at p4; exact p4.elim
        | false => exact p2 _ G3 H3 g3 S3 (.inl (.bl false))
      | _ => exact p2.elim
  · rw [if_neg hd] at p2; exact p2.elim
theorem de_chain {op op' : CmpOp} {f g : PD → PD → R PD} {a b c : Expr} {fa fb fc : Mx B PD} {pos : Pos} (ho : DOp X (compareOp op) f) (ho' : DOp X (compareOp op') g) (ha : DE X B O a fa) (hb : DE X B O b fb) (hc : DE X B O c fc)
    (hm : lastMarks [op, op'] [b, c] = false := by with_unfolding_all rfl) : DE X B O (.Compare a [op, op'] [b, c] pos) (cChain f g fa fb fc) :=
  PE.imp (pe_chain ho ho' ha hb hc hm) fun σ H Q h => rd_chain h
theorem dt_chain {op op' : CmpOp} {f g : PD → PD → R PD} {a b c : Expr} {fa fb fc : Mx B PD} {pos : Pos} (ho : DOp X (compareOp op) f) (ho' : DOp X (compareOp op') g) (ha : DE X B O a fa) (hb : DE X B O b fb) (hc : DE X B O c fc)
    (hm : lastMarks [op, op'] [b, c] = false := by with_unfolding_all rfl) : DT X B O (.Compare a [op, op'] [b, c] pos) (cTest (cChain f g fa fb fc)) :=
  PT.imp (pt_chain ho ho' ha hb hc hm) fun σ H Q h => by
    obtain ⟨G, ρ, s, a, p⟩ := rd_test h
    exact rd_chain ⟨G, ρ, s, a, p⟩

/-! ### arguments, displays -/
def aNil {d : Type} : Env → d → R (List PD × d) := fun _ s => .ok ([], s)
def aCons {d : Type} (a : Env → d → R (PD × d)) (r : Env → d → R (List PD × d)) : Env → d → R (List PD × d) := fun ρ s => bnd (a ρ s) fun x s1 => bnd (r ρ s1) fun xs s2 => .ok (x :: xs, s2)
theorem PostA.done {G H : Hp} {vs : List V} {ds : List PD} {s : B.W.d} {Q : List V → Hp → Prop} (S : Sit B.W G H s) (r : RpAll B.W.tk G vs ds) (p : PostA B G H (.ok (ds, s)) Q) : Q vs H := p vs G H .refl S r
theorem da_nil : DA X B O [] aNil := PA.imp pa_nil fun σ H Q h => by
  obtain ⟨G, ρ, s, a, p⟩ := h
  exact p.done a.sit .nil
theorem da_cons {e : Expr} {es : List Expr} {fe : Mx B PD} {fr : Mx B (List PD)} (he : DE X B O e fe) (hr : DA X B O es fr) (hs : starEach (e :: es) X.env = (false, eval e X.env) :: starEach es X.env := by rfl) : DA X B O (e :: es) (aCons fe fr) :=
  PA.imp (pa_cons he hr hs) fun σ H Q h => by
    obtain ⟨G, ρ, s, a, p⟩ := h
    refine rdE.thenA a p fun x G1 H1 dx s1 a1 g1 rx p1 => ?_
    refine rdA.thenA a1 p1 fun xs G2 H2 ds s2 a2 g2 rs p2 => ?_
    exact p2.done a2.sit (.cons (rx.mono g2.g) rs)
def cTup {d : Type} (r : Env → d → R (List PD × d)) : Env → d → R (PD × d) := fun ρ s => bnd (r ρ s) fun xs s1 => if allD xs && decide (xs.length ≤ sizeLine) then .ok (.tuple xs, s1) else .bad
def cLst {d : Type} (r : Env → d → R (List PD × d)) : Env → d → R (PD × d) := fun ρ s => bnd (r ρ s) fun xs s1 => if allD xs && decide (xs.length ≤ sizeLine) then .ok (.list xs, s1) else .bad
theorem de_tup {es : List Expr} {k : Nat} {f : Mx B (List PD)} {pos : Pos} (h : DA X B O es f) : DE X B O (.Tuple es k pos) (cTup f) :=
  PE.imp (pe_tup h) fun σ H Q h => by
    obtain ⟨G, ρ, s, a, p⟩ := h
    refine rdA.then a p fun xs G1 H1 ds s1 a1 g1 rs p1 => ?_
    by_cases hd : (allD ds && decide (ds.length ≤ sizeLine)) = true
    · rw [if_pos hd] at p1
      rw [Bool.and_eq_true, decide_eq_true_eq] at hd
      exact ⟨by rw [rs.len]; exact hd.2, fun q hq => p1.tup a1.sit (rs.dg hd.1) hq⟩
    · rw [if_neg hd] at p1; exact p1.elim
theorem de_lst {es : List Expr} {f : Mx B (List PD)} {pos : Pos} (h : DA X B O es f) : DE X B O (.List es pos) (cLst f) :=
  PE.imp (pe_lst h) fun σ H Q h => by
    obtain ⟨G, ρ, s, a, p⟩ := h
    refine rdA.then a p fun xs G1 H1 ds s1 a1 g1 rs p1 => ?_
    by_cases hd : (allD ds && decide (ds.length ≤ sizeLine)) = true
    · rw [if_pos hd] at p1
      rw [Bool.and_eq_true, decide_eq_true_eq] at hd
      exact ⟨by rw [rs.len]; exact hd.2, fun q hq => p1.lst a1.sit (rs.dg hd.1) hq⟩
    · rw [if_neg hd] at p1; exact p1.elim

/-! ### subscripts -/
def pIx : PD → PD → R PD
  | .list xs, .int i => match atI xs i with
    | some d => .ok d
    | none => .bad
  | .tuple xs, .int i => match atI xs i with
    | some d => .ok d
    | none => .bad
  | .str z, .int i => if z.length ≤ sizeLine then match atI z.cps.toList i with
    | some c => .ok (.str ⟨#[c]⟩)
    | none => .bad
    else .bad
  | _, _ => .bad
theorem DgAll.atI {G : Hp} {vs : List V} {ds : List PD} {i : Int} {d : PD} (h : DgAll G vs ds) (e : atI ds i = some d) : ∃ v, L2.atI vs i = some v ∧ Dg G v d := by
  unfold L2.atI at e ⊢
  rw [h.len]
  cases q : ixN ds.length i with
  | none => rw [q] at e; cases e
  | some j =>
    rw [q] at e
    exact h.get e
theorem dix_seq : IxR X (rdO pIx) := by
  intro b hb pins s σ H x y v u Q I rx ry h
  obtain ⟨G, d, e, sb, rx', ry', p⟩ := h
  refine ix_seq b hb pins s σ H x y v u Q I rx ry ?_
  unfold pIx at p
  split at p
  · split at p
    · rename_i i d' e'
      obtain ⟨a, vs, rfl, ga, da⟩ := rx'.of_lst
      obtain ⟨w, h1, h2⟩ := da.atI e'
      exact .inl ⟨_, _, _, w, rfl, ry'.of_int, SqL.of (sb _ _ ga), h1, p.val sb h2⟩
    · exact p.elim
  · split at p
    · rename_i i d' e'
      obtain ⟨a, vs, rfl, ga, da⟩ := rx'.of_tup
      obtain ⟨w, h1, h2⟩ := da.atI e'
      exact .inr (.inl ⟨_, _, _, w, rfl, ry'.of_int, SqT.of (sb _ _ ga), h1, p.val sb h2⟩)
    · exact p.elim
  · split at p
    · rename_i hz
      split at p
      · rename_i c e'
        exact .inr (.inr ⟨_, _, c, rx'.of_str, ry'.of_int, hz, e', p.val sb (.str _)⟩)
      · exact p.elim
    · exact p.elim
  · exact p.elim
theorem de_ix {a b : Expr} {fa fb : Mx B PD} {pos : Pos} (ha : DE X B O a fa) (hb : DE X B O b fb) (hs : PlainIx b := by intro _ _; rfl) : DE X B O (.Subscript a b pos) (cOp pIx fa fb) :=
  PE.imp (pe_ix dix_seq ha hb hs) fun σ H Q h => rd_op h
end
end DL

/-! DL4: slices, built-ins -/
namespace DL
open PySem PySem.Spec PyProof.Rows L2
section
variable {X : Cx} {B : Bs} {O : List Nat}
/-! ### slices -/
def cutD {a : Type} (xs : List a) (lo hi : Option Int) : List a := (xs.drop (HT.sIx xs.length 0 lo)).take (HT.sIx xs.length xs.length hi - HT.sIx xs.length 0 lo)
def pSl : PD → Option Int → Option Int → R PD
  | .list xs, lo, hi => .ok (.list (cutD xs lo hi))
  | .tuple xs, lo, hi => if HT.sIx xs.length 0 lo = 0 ∧ HT.sIx xs.length xs.length hi = xs.length then .ok (.tuple xs) else .ok (.tuple (cutD xs lo hi))
  | .str z, lo, hi => if z.length ≤ sizeLine then .ok (.str (cutS z lo hi)) else .bad
  | _, _, _ => .bad
theorem DgAll.cut {G : Hp} {vs : List V} {ds : List PD} (h : DgAll G vs ds) (lo hi : Option Int) : DgAll G (cutV vs lo hi) (cutD ds lo hi) := by
  unfold cutV cutD
  rw [h.len]
  exact (h.drop _).take _
def rdSl (f : PD → Option Int → Option Int → R PD) : V → Option Int → Option Int → Hp → VK → Prop := fun x lo hi H Q => ∃ G d, Sub G H ∧ Dg G x d ∧ PostD G H (f d lo hi) Q
theorem SlR.by {r' : V → Option Int → Option Int → Hp → VK → Prop} (h : ∀ x lo hi H Q, r' x lo hi H Q → ∃ r, SlR X r ∧ r x lo hi H Q) : SlR X r' := fun pins s σ H x v vl vu lo hi sl Q I rx hs pl pu q => by
  obtain ⟨r, hr, q'⟩ := h x lo hi H Q q
  exact hr pins s σ H x v vl vu lo hi sl Q I rx hs pl pu q'
theorem dsl : SlR X (rdSl pSl) := by
  refine SlR.by fun x lo hi H Q h => ?_
  obtain ⟨G, d, sb, rx, p⟩ := h
  unfold pSl at p
  split at p
  · obtain ⟨a, vs, rfl, ga, da⟩ := rx.of_lst
    exact ⟨_, sl_list, _, _, rfl, SqL.of (sb _ _ ga), fun q hq => p.lst sb (da.cut _ _) hq⟩
  · obtain ⟨a, vs, rfl, ga, da⟩ := rx.of_tup
    have hl := da.len
    split at p
    · rename_i hw
      refine ⟨_, sl_tupA, _, _, rfl, SqT.of (sb _ _ ga), ?_⟩
      rw [hl]
      exact ⟨fun _ => p.val sb (.tup ga da), fun n => absurd hw n⟩
    · rename_i hw
      refine ⟨_, sl_tupA, _, _, rfl, SqT.of (sb _ _ ga), ?_⟩
      rw [hl]
      exact ⟨fun z => absurd z hw, fun _ q hq => p.tup sb (da.cut _ _) hq⟩
  · split at p
    · rename_i hz
      exact ⟨_, sl_str, _, rx.of_str, hz, p.val sb (.str _)⟩
    · exact p.elim
  · exact p.elim
/-- a part of a slice -/
def PostO (B : Bs) (G H : Hp) (r : R (Option Int × B.W.d)) (Q : Option Int → Hp → Prop) : Prop :=
  match r with
  | .ok (b, s') => ∀ G' H', Gr B.W.fp G H G' H' → Sit B.W G' H' s' → Q b H'
  | .exc c => ∀ G' H', Gr B.W.fp G H G' H' → B.E (.ref (B.W.cls c)) none H'
  | .bad => False
def rdPt (B : Bs) (O : List Nat) (f : Mx B (Option Int)) : TO := fun σ H Q => ∃ G ρ s, At B O σ H G ρ s ∧ PostO B G H (f ρ s) Q
abbrev DO (X : Cx) (B : Bs) (O : List Nat) (e : Option Expr) (f : Mx B (Option Int)) : Prop := PO X e (rdPt B O f)
theorem PO.imp {e : Option Expr} {t t' : TO} (h : PO X e t) (i : ∀ σ H Q, t' σ H Q → t σ H Q) : PO X e t' := ⟨fun pins s σ H Q I q => h.run pins s σ H Q I (i σ H Q q)⟩
theorem PostO.mono {G H G1 H1 : Hp} {r : R (Option Int × B.W.d)} {Q : Option Int → Hp → Prop} (g : Gr B.W.fp G H G1 H1) (h : PostO B G H r Q) : PostO B G1 H1 r Q := by
  cases r with
  | ok x => exact fun G' H' g' S' => h G' H' (g.trans g') S'
  | exc c => exact fun G' H' g' => h G' H' (g.trans g')
  | bad => exact h
def oNone {d : Type} : Env → d → R (Option Int × d) := fun _ s => .ok (none, s)
def oSome {d : Type} (a : Env → d → R (PD × d)) : Env → d → R (Option Int × d) := fun ρ s => bnd (a ρ s) fun x s1 => match x with
  | .int i => .ok (some i, s1)
  | _ => .bad
theorem do_none : DO X B O none oNone := PO.imp po_none fun σ H Q h => by
  obtain ⟨G, ρ, s, a, p⟩ := h
  exact p G H .refl a.sit
theorem do_some {e : Expr} {fe : Mx B PD} (he : DE X B O e fe) : DO X B O (some e) (oSome fe) := PO.imp (po_some he) fun σ H Q h => by
  obtain ⟨G, ρ, s, a, p⟩ := h
  refine rdE.fst (k := fun x s1 => match x with | .int i => .ok (some i, s1) | _ => .bad) a (fun G H r => PostO B G H r Q) (fun g p => p.mono g) (fun p => p) (fun p => p) p fun x G1 H1 dx s1 a1 g1 rx p1 => ?_
  cases dx with
  | int i => exact ⟨i, (rx.dg (isD_tok rfl)).of_int, p1 G1 H1 .refl a1.sit⟩
  | _ => exact p1.elim
theorem rdPt.then {f : Mx B (Option Int)} {σ : St} {H : Hp} {Q : Option Int → Hp → Prop} {Q' : VK} {G : Hp} {ρ : Env} {s : B.W.d} {k : Option Int → B.W.d → R (PD × B.W.d)}
    (a : At B O σ H G ρ s) (p : PostE B G H (bnd (f ρ s) k) Q') (h : ∀ x G1 H1 s1, At B O σ H1 G1 ρ s1 → Gr B.W.fp G H G1 H1 → PostE B G1 H1 (k x s1) Q' → Q x H1) : rdPt B O f σ H Q := by
  refine ⟨G, ρ, s, a, ?_⟩
  cases e : f ρ s with
  | ok x =>
    obtain ⟨d, s1⟩ := x
    rw [e] at p
    exact fun G1 H1 g S => h d G1 H1 s1 (a.step g S) g (PostE.mono g p)
  | exc c => rw [e] at p; exact p
  | bad => rw [e] at p; exact p
def cSl {d : Type} (f : PD → Option Int → Option Int → R PD) (a : Env → d → R (PD × d)) (l h : Env → d → R (Option Int × d)) : Env → d → R (PD × d) := fun ρ s =>
  bnd (a ρ s) fun x s1 => bnd (l ρ s1) fun lo s2 => bnd (h ρ s2) fun hi s3 => if isD x then lft (isOk (f x lo hi)) s3 else .bad
theorem de_slice {e : Expr} {lo hi : Option Expr} {fe : Mx B PD} {fl fh : Mx B (Option Int)} {p2 pos : Pos} (he : DE X B O e fe) (hl : DO X B O lo fl) (hh : DO X B O hi fh) : DE X B O (.Subscript e (.Slice lo hi none p2) pos) (cSl pSl fe fl fh) :=
  PE.imp (pe_slice dsl he hl hh) fun σ H Q h => by
    obtain ⟨G, ρ, s, a, p⟩ := h
    refine rdE.then a p fun x G1 H1 dx s1 a1 g1 rx p1 => ?_
    refine rdPt.then a1 p1 fun l G2 H2 s2 a2 g2 p2 => ?_
    refine rdPt.then a2 p2 fun u G3 H3 s3 a3 g3 p3 => ?_
    by_cases hd : isD dx = true
    · rw [if_pos hd] at p3
      exact ⟨G3, dx, a3.sit.sub, ((rx.mono g2.g).mono g3.g).dg (isD_tok hd), (PostD.of a3.sit p3 (isOk_nx _)).isOk⟩
    · rw [if_neg hd] at p3; exact p3.elim
/-- xs[::-1] -/
def pRev : PD → R PD
  | .list xs => .ok (.list xs.reverse)
  | _ => .bad
theorem de_rev {e : Expr} {fe : Mx B PD} {k : Nat} {p1 p2 p3 pos : Pos} (he : DE X B O e fe) : DE X B O (.Subscript e (.Slice none none (some (.UnaryOp .USub (.Constant (.int 1) k p1) p2)) p3) pos) (cUn pRev fe) :=
  PE.imp (pe_revL he) fun σ H Q h => by
    obtain ⟨G, ρ, s, a, p⟩ := h
    refine rdE.then a p fun x G1 H1 dx s1 a1 g1 rx p1 => ?_
    cases dx with
    | list ds =>
      obtain ⟨l, vs, rfl, gl, dl⟩ := (rx.dg (isD_tok rfl)).of_lst
      exact ⟨_, _, rfl, SqL.of (a1.sit.sub _ _ gl), fun q hq => PostE.lst (ds := ds.reverse) a1.sit dl.rev p1 hq⟩
    | dict _ => exact p1.elim
    | _ => exact p1.elim

/-! ### calls of built-ins -/
def rdC (f : List PD → R PD) : List V → Hp → VK → Prop := fun vs H Q => ∃ G ds, Sub G H ∧ DgAll G vs ds ∧ PostD G H (f ds) Q
def cCall {d : Type} (f : List PD → R PD) (a : Env → d → R (List PD × d)) : Env → d → R (PD × d) := fun ρ s =>
  bnd (a ρ s) fun xs s1 => if allD xs then lft (isOk (f xs)) s1 else .bad
theorem CallR.by {fv : Value} {r' : List V → Hp → VK → Prop} (h : ∀ vs H Q, r' vs H Q → ∃ r, CallR X fv r ∧ r vs H Q) : CallR X fv r' := fun pins s σ H vs us Q I rv q => by
  obtain ⟨r, hr, q'⟩ := h vs H Q q
  exact hr pins s σ H vs us Q I rv q'
theorem rd_call {f : List PD → R PD} {fa : Mx B (List PD)} {σ : St} {H : Hp} {Q : VK} (h : rdE B O (cCall f fa) σ H Q) : tCB (rdC f) (rdA B O fa) σ H Q := by
  obtain ⟨G, ρ, s, a, p⟩ := h
  refine rdA.then a p fun vs G1 H1 ds s1 a1 g1 rs p1 => ?_
  by_cases hd : allD ds = true
  · rw [if_pos hd] at p1
    exact ⟨G1, ds, a1.sit.sub, rs.dg hd, (PostD.of a1.sit p1 (isOk_nx _)).isOk⟩
  · rw [if_neg hd] at p1; exact p1.elim
theorem de_callB {x : Str} {id : String} {f : List PD → R PD} {e : Expr} {es : List Expr} {fa : Mx B (List PD)} {p pos : Pos} (hc : CallR X (.builtin id) (rdC f)) (hm : X.mg x = none) (ha : DA X B O (e :: es) fa) (hv : bootBuiltins x = some (.builtin id) := by decide +kernel) (hg : Gl X x := by rfl)
    (hn : x ≠ "__name__" := by decide) (hdb : (x == ("__debug__" : Str)) = false := by decide) (he : starEach (e :: es) X.env = (false, eval e X.env) :: starEach es X.env := by rfl) (hpl : (backTo pos (starEach es X.env)).any (·.1) = false := by rfl) : DE X B O (.Call (.Name x p) (e :: es) [] pos) (cCall f fa) :=
  PE.imp (pe_callB hc hg hm hv ha hn hdb he hpl) fun σ H Q h => rd_call h
theorem de_callTy {x : Str} {T : String} {f : List PD → R PD} {e : Expr} {es : List Expr} {fa : Mx B (List PD)} {p pos : Pos} (hc : CallR X (.type T) (rdC f)) (hm : X.mg x = none) (ha : DA X B O (e :: es) fa) (hv : bootBuiltins x = some (.type T) := by decide +kernel) (hg : Gl X x := by rfl)
    (hn : x ≠ "__name__" := by decide) (hdb : (x == ("__debug__" : Str)) = false := by decide) (he : starEach (e :: es) X.env = (false, eval e X.env) :: starEach es X.env := by rfl) (hpl : (backTo pos (starEach es X.env)).any (·.1) = false := by rfl) : DE X B O (.Call (.Name x p) (e :: es) [] pos) (cCall f fa) :=
  PE.imp (pe_callTy hc hg hm hv ha hn hdb he hpl) fun σ H Q h => rd_call h
theorem DgAll.one {G : Hp} {vs : List V} {d : PD} (h : DgAll G vs [d]) : ∃ v, vs = [v] ∧ Dg G v d := by
  cases h with
  | cons a b => cases b; exact ⟨_, rfl, a⟩
theorem DgAll.two {G : Hp} {vs : List V} {d e : PD} (h : DgAll G vs [d, e]) : ∃ v w, vs = [v, w] ∧ Dg G v d ∧ Dg G w e := by
  cases h with
  | cons a b =>
    cases b with
    | cons b c => cases c; exact ⟨_, _, rfl, a, b⟩
/-- len -/
def pLen : List PD → R PD
  | [.list xs] => .ok (.int xs.length)
  | [.tuple xs] => .ok (.int xs.length)
  | [.str z] => if z.length ≤ sizeLine then .ok (.int z.length) else .bad
  | _ => .bad
theorem dc_len : CallR X (.builtin "len") (rdC pLen) := by
  refine CallR.by fun vs H Q h => ?_
  obtain ⟨G, ds, sb, rs, p⟩ := h
  unfold pLen at p
  split at p
  · obtain ⟨v, rfl, rv⟩ := rs.one
    obtain ⟨a, xs, rfl, ga, da⟩ := rv.of_lst
    refine ⟨_, call_len_seq, _, _, rfl, .inl (SqL.of (sb _ _ ga)), ?_⟩
    rw [da.len]
    exact p.val sb (.int _)
  · obtain ⟨v, rfl, rv⟩ := rs.one
    obtain ⟨a, xs, rfl, ga, da⟩ := rv.of_tup
    refine ⟨_, call_len_seq, _, _, rfl, .inr (SqT.of (sb _ _ ga)), ?_⟩
    rw [da.len]
    exact p.val sb (.int _)
  · obtain ⟨v, rfl, rv⟩ := rs.one
    split at p
    · rename_i hz
      exact ⟨_, call_len_str, _, by rw [rv.of_str], hz, p.val sb (.int _)⟩
    · exact p.elim
  · exact p.elim
/-- lists of ints, of bools -/
def toInts : List PD → Option (List Int)
  | [] => some []
  | .int i :: r => (toInts r).map (i :: ·)
  | _ => none
def toBools : List PD → Option (List Bool)
  | [] => some []
  | .bool i :: r => (toBools r).map (i :: ·)
  | _ => none
theorem toInts_eq : ∀ {ds : List PD} {ns : List Int}, toInts ds = some ns → ds = ns.map PyData.int
  | [], ns, h => by simp only [toInts, Option.some.injEq] at h; subst h; rfl
  | d :: r, ns, h => by
    cases d with
    | int i =>
      simp only [toInts, Option.map_eq_some_iff] at h
      obtain ⟨ms, h1, h2⟩ := h
      subst h2
      rw [toInts_eq h1]; rfl
    | _ => simp [toInts] at h
theorem toBools_eq : ∀ {ds : List PD} {ns : List Bool}, toBools ds = some ns → ds = ns.map PyData.bool
  | [], ns, h => by simp only [toBools, Option.some.injEq] at h; subst h; rfl
  | d :: r, ns, h => by
    cases d with
    | bool i =>
      simp only [toBools, Option.map_eq_some_iff] at h
      obtain ⟨ms, h1, h2⟩ := h
      subst h2
      rw [toBools_eq h1]; rfl
    | _ => simp [toBools] at h
@[simp] theorem toInts_map : ∀ ns : List Int, toInts (ns.map PyData.int) = some ns
  | [] => rfl
  | n :: ns => by simp only [List.map_cons, toInts, toInts_map ns, Option.map_some]
@[simp] theorem toBools_map : ∀ ns : List Bool, toBools (ns.map PyData.bool) = some ns
  | [] => rfl
  | n :: ns => by simp only [List.map_cons, toBools, toBools_map ns, Option.map_some]
/-- all -/
def pAll : List PD → R PD
  | [.list xs] => match toBools xs with
    | some bs => .ok (.bool (bs.all id))
    | none => .bad
  | _ => .bad
theorem dc_all (hc : X.calm = true) : CallR X (.builtin "all") (rdC pAll) := by
  refine CallR.by fun vs H Q h => ?_
  obtain ⟨G, ds, sb, rs, p⟩ := h
  unfold pAll at p
  split at p
  · obtain ⟨v, rfl, rv⟩ := rs.one
    obtain ⟨a, xs, rfl, ga, da⟩ := rv.of_lst
    split at p
    · rename_i bs e
      rw [toBools_eq e] at da
      have e2 := da.bools
      subst e2
      exact ⟨_, cr_all hc, _, bs, rfl, SqL.of (sb _ _ ga), p.val sb (.bl _)⟩
    · exact p.elim
  · exact p.elim
/-- sum of a list, of a tuple -/
theorem sum_tupleRaw {prog : Program} {w : World} {A : Around} {E : Value → Shared → Prop} {s : Shared} {l : Addr} {its : List Value} {ns : List Int} {Q : Value → Shared → Prop} (hh : A.handled = none) (hl : s.heap.IsTuple l its.toArray) (hi : IntsAre its ns)
    (h : ∀ h' tk t', (∀ b o, s.heap.get? b = some o → h'.get? b = some o) → Q (.int ns.sum t') { s with heap := h', toks := tk }) : wpAny (model prog w) A (call (.builtin "sum") [.ref l]) Q E s := by
  obtain ⟨xs, e⟩ := hi.allInts.items
  have hn : numsOf (intItems xs).toList = ns := by rw [← e]; exact hi.numsOf
  rw [nums_intItems] at hn
  rw [e] at hl
  refine call_sum_walkG (wpAny_pyIter_tuple hl ?_)
  have hlt : l < s.heap.objs.size := by
    obtain ⟨o, ho, _⟩ := hl
    exact Heap.lt_size ho
  refine ⟨_, _, _, _, _, _, numAt xs, rfl, Walks.tuple (A := A.in1) hh _ l (Nat.ne_of_lt hlt) (intItems xs), ⟨⟨_, Heap.get?_push_size _ rfl, rfl, rfl⟩, hl.push _⟩, ?_, (fun _ _ => intItems_at), fun h' tk t' hk => ?_⟩
  · intro b hb
    rw [Heap.size_push]
    simp only [List.mem_cons, List.not_mem_nil, or_false] at hb
    rcases hb with rfl | rfl
    · exact Nat.lt_succ_self _
    · exact Nat.lt_succ_of_lt hlt
  · have q := h h' tk t' fun b o eb => hk b o (by
      simp only [List.mem_singleton]
      exact Nat.ne_of_lt (Heap.lt_size eb)) (Heap.get?_push_of_some _ eb)
    have e3 : preSum (numAt xs) (intItems xs).size = ns.sum := by
      rw [preSum_eq, List.take_of_length_le (by simp [intItems]), hn]
    rw [e3]
    exact q
theorem cr_sumT (hc : X.calm = true) : CallR X (.builtin "sum") (fun vs H Q => ∃ (a : Addr) (ns : List Int), vs = [V.ref a] ∧ SqT X.K H a (ns.map V.int) ∧ Q (.int ns.sum) H) := by
  intro pins s σ H vs us Q I r h
  obtain ⟨a, ns, rfl, hs, q⟩ := h
  obtain ⟨its, rv, hl, _⟩ := I.tuple hs
  rw [Vals.ref1 r]
  exact sum_tupleRaw (I.ok.hd hc) hl rv.ints fun h' tk t' hk => ⟨.int _, H, I.kept hk, ⟨_, rfl⟩, q⟩
def pSum : List PD → R PD
  | [.list xs] => match toInts xs with
    | some bs => .ok (.int bs.sum)
    | none => .bad
  | [.tuple xs] => match toInts xs with
    | some bs => .ok (.int bs.sum)
    | none => .bad
  | _ => .bad
theorem dc_sum (hc : X.calm = true) : CallR X (.builtin "sum") (rdC pSum) := by
  refine CallR.by fun vs H Q h => ?_
  obtain ⟨G, ds, sb, rs, p⟩ := h
  unfold pSum at p
  split at p
  · obtain ⟨v, rfl, rv⟩ := rs.one
    obtain ⟨a, xs, rfl, ga, da⟩ := rv.of_lst
    split at p
    · rename_i bs e
      rw [toInts_eq e] at da
      have e2 := da.ints
      subst e2
      exact ⟨_, cr_sum hc, _, bs, rfl, SqL.of (sb _ _ ga), p.val sb (.int _)⟩
    · exact p.elim
  · obtain ⟨v, rfl, rv⟩ := rs.one
    obtain ⟨a, xs, rfl, ga, da⟩ := rv.of_tup
    split at p
    · rename_i bs e
      rw [toInts_eq e] at da
      have e2 := da.ints
      subst e2
      exact ⟨_, cr_sumT hc, _, bs, rfl, SqT.of (sb _ _ ga), p.val sb (.int _)⟩
    · exact p.elim
  · exact p.elim
/-- max, min -/
def maxL : Int → List Int → Int
  | m, [] => m
  | m, x :: r => maxL (if x > m then x else m) r
def minL : Int → List Int → Int
  | m, [] => m
  | m, x :: r => minL (if x < m then x else m) r
theorem maxL_ge : ∀ (r : List Int) (m : Int), m ≤ maxL m r ∧ (∀ y ∈ r, y ≤ maxL m r) ∧ (maxL m r = m ∨ maxL m r ∈ r)
  | [], m => ⟨Int.le_refl _, fun y h => by simp at h, .inl rfl⟩
  | x :: r, m => by
    have h := maxL_ge r (if x > m then x else m)
    unfold maxL
    split at h
    · rename_i c
      rw [if_pos c]
      refine ⟨by omega, fun y hy => ?_, ?_⟩
      · rcases List.mem_cons.mp hy with rfl | hy
        · exact h.1
        · exact h.2.1 y hy
      · rcases h.2.2 with e | e
        · exact .inr (by rw [e]; simp)
        · exact .inr (List.mem_cons_of_mem _ e)
    · rename_i c
      rw [if_neg c]
      refine ⟨h.1, fun y hy => ?_, ?_⟩
      · rcases List.mem_cons.mp hy with rfl | hy
        · omega
        · exact h.2.1 y hy
      · rcases h.2.2 with e | e
        · exact .inl e
        · exact .inr (List.mem_cons_of_mem _ e)
theorem minL_le : ∀ (r : List Int) (m : Int), minL m r ≤ m ∧ (∀ y ∈ r, minL m r ≤ y) ∧ (minL m r = m ∨ minL m r ∈ r)
  | [], m => ⟨Int.le_refl _, fun y h => by simp at h, .inl rfl⟩
  | x :: r, m => by
    have h := minL_le r (if x < m then x else m)
    unfold minL
    split at h
    · rename_i c
      rw [if_pos c]
      refine ⟨by omega, fun y hy => ?_, ?_⟩
      · rcases List.mem_cons.mp hy with rfl | hy
        · exact h.1
        · exact h.2.1 y hy
      · rcases h.2.2 with e | e
        · exact .inr (by rw [e]; simp)
        · exact .inr (List.mem_cons_of_mem _ e)
    · rename_i c
      rw [if_neg c]
      refine ⟨h.1, fun y hy => ?_, ?_⟩
      · rcases List.mem_cons.mp hy with rfl | hy
        · omega
        · exact h.2.1 y hy
      · rcases h.2.2 with e | e
        · exact .inl e
        · exact .inr (List.mem_cons_of_mem _ e)
theorem maxL_eq {m : Int} {x : Int} {r : List Int} (h1 : m ∈ x :: r) (h2 : ∀ y ∈ x :: r, y ≤ m) : m = maxL x r := by
  have h := maxL_ge r x
  have a : maxL x r ≤ m := by
    rcases h.2.2 with e | e
    · rw [e]; exact h2 x (by simp)
    · exact h2 _ (List.mem_cons_of_mem _ e)
  have b : m ≤ maxL x r := by
    rcases List.mem_cons.mp h1 with e | e
    · rw [e]; exact h.1
    · exact h.2.1 m e
  omega
theorem minL_eq {m : Int} {x : Int} {r : List Int} (h1 : m ∈ x :: r) (h2 : ∀ y ∈ x :: r, m ≤ y) : m = minL x r := by
  have h := minL_le r x
  have a : m ≤ minL x r := by
    rcases h.2.2 with e | e
    · rw [e]; exact h2 x (by simp)
    · exact h2 _ (List.mem_cons_of_mem _ e)
  have b : minL x r ≤ m := by
    rcases List.mem_cons.mp h1 with e | e
    · rw [e]; exact h.1
    · exact h.2.1 m e
  omega
def pMax : List PD → R PD
  | [.list xs] => match toInts xs with
    | some (x :: r) => .ok (.int (maxL x r))
    | _ => .bad
  | [.int i, .int j] => .ok (.int (if j > i then j else i))
  | _ => .bad
def pMin : List PD → R PD
  | [.list xs] => match toInts xs with
    | some (x :: r) => .ok (.int (minL x r))
    | _ => .bad
  | [.int i, .int j] => .ok (.int (if j < i then j else i))
  | _ => .bad
theorem dc_max (hc : X.calm = true) : CallR X (.builtin "max") (rdC pMax) := by
  refine CallR.by fun vs H Q h => ?_
  obtain ⟨G, ds, sb, rs, p⟩ := h
  unfold pMax at p
  split at p
  · obtain ⟨v, rfl, rv⟩ := rs.one
    obtain ⟨a, xs, rfl, ga, da⟩ := rv.of_lst
    split at p
    · rename_i x r e
      rw [toInts_eq e] at da
      have e2 := da.ints
      subst e2
      refine ⟨_, cr_max hc, _, x :: r, rfl, SqL.of (sb _ _ ga), Nat.succ_pos _, fun m h1 h2 => ?_⟩
      rw [maxL_eq h1 h2]
      exact p.val sb (.int _)
    · exact p.elim
  · obtain ⟨v, w, rfl, rv, rw'⟩ := rs.two
    exact ⟨_, call_max2 hc, _, _, by rw [rv.of_int, rw'.of_int], p.val sb (.int _)⟩
  · exact p.elim
theorem dc_min (hc : X.calm = true) : CallR X (.builtin "min") (rdC pMin) := by
  refine CallR.by fun vs H Q h => ?_
  obtain ⟨G, ds, sb, rs, p⟩ := h
  unfold pMin at p
  split at p
  · obtain ⟨v, rfl, rv⟩ := rs.one
    obtain ⟨a, xs, rfl, ga, da⟩ := rv.of_lst
    split at p
    · rename_i x r e
      rw [toInts_eq e] at da
      have e2 := da.ints
      subst e2
      refine ⟨_, cr_min hc, _, x :: r, rfl, SqL.of (sb _ _ ga), Nat.succ_pos _, fun m h1 h2 => ?_⟩
      rw [minL_eq h1 h2]
      exact p.val sb (.int _)
    · exact p.elim
  · obtain ⟨v, w, rfl, rv, rw'⟩ := rs.two
    exact ⟨_, call_min2 hc, _, _, by rw [rv.of_int, rw'.of_int], p.val sb (.int _)⟩
  · exact p.elim
/-- abs -/
def pAbs : List PD → R PD
  | [.int i] => .ok (.int (if i < 0 then -i else i))
  | _ => .bad
theorem dc_abs : CallR X (.builtin "abs") (rdC pAbs) := by
  refine CallR.by fun vs H Q h => ?_
  obtain ⟨G, ds, sb, rs, p⟩ := h
  unfold pAbs at p
  split at p
  · obtain ⟨v, rfl, rv⟩ := rs.one
    exact ⟨_, call_abs, _, by rw [rv.of_int], p.val sb (.int _)⟩
  · exact p.elim
/-- list(x), tuple(x) -/
def pList : List PD → R PD
  | [.list xs] => .ok (.list xs)
  | [.tuple xs] => .ok (.list xs)
  | _ => .bad
def pTuple : List PD → R PD
  | [.list xs] => .ok (.tuple xs)
  | [.tuple xs] => .ok (.tuple xs)
  | _ => .bad
theorem dc_list : CallR X (.type "list") (rdC pList) := by
  refine CallR.by fun vs H Q h => ?_
  obtain ⟨G, ds, sb, rs, p⟩ := h
  unfold pList at p
  split at p
  · obtain ⟨v, rfl, rv⟩ := rs.one
    obtain ⟨a, xs, rfl, ga, da⟩ := rv.of_lst
    exact ⟨_, call_list_of, _, _, rfl, .inl (SqL.of (sb _ _ ga)), fun q hq => p.lst sb da hq⟩
  · obtain ⟨v, rfl, rv⟩ := rs.one
    obtain ⟨a, xs, rfl, ga, da⟩ := rv.of_tup
    exact ⟨_, call_list_of, _, _, rfl, .inr (SqT.of (sb _ _ ga)), fun q hq => p.lst sb da hq⟩
  · exact p.elim
theorem dc_tuple : CallR X (.type "tuple") (rdC pTuple) := by
  refine CallR.by fun vs H Q h => ?_
  obtain ⟨G, ds, sb, rs, p⟩ := h
  unfold pTuple at p
  split at p
  · obtain ⟨v, rfl, rv⟩ := rs.one
    obtain ⟨a, xs, rfl, ga, da⟩ := rv.of_lst
    exact ⟨_, call_tuple_of, _, _, rfl, .inl ⟨SqL.of (sb _ _ ga), fun q hq => p.tup sb da hq⟩⟩
  · obtain ⟨v, rfl, rv⟩ := rs.one
    obtain ⟨a, xs, rfl, ga, da⟩ := rv.of_tup
    exact ⟨_, call_tuple_of, _, _, rfl, .inr ⟨SqT.of (sb _ _ ga), p.val sb (.tup ga da)⟩⟩
  · exact p.elim
/-- isinstance(x, T) of a built-in T -/
def tyN : PD → String
  | .none => "NoneType"
  | .bool _ => "bool"
  | .int _ => "int"
  | .str _ => "str"
  | .list _ => "list"
  | .tuple _ => "tuple"
  | .dict _ => "dict"
def isiT (T : String) : PD → Bool
  | .bool _ => T == "bool" || T == "int"
  | d => tyN d == T
def pIsi (T : String) : PD → R PD := fun d => .ok (.bool (isiT T d))
def TyOkB (T : String) : Bool := ["NoneType", "bool", "int", "str", "list", "tuple"].all fun a => kitB a T == some (if a == "bool" then T == "bool" || T == "int" else a == T)
theorem isi_kit {T a : String} (h : TyOkB T = true) (m : a ∈ ["NoneType", "bool", "int", "str", "list", "tuple"]) : kitB a T = some (if a == "bool" then T == "bool" || T == "int" else a == T) := by
  unfold TyOkB at h
  rw [List.all_eq_true] at h
  exact eq_of_beq (h a m)
theorem ty_of {K : PySem.W.Frag} {G H : Hp} {v : V} {d : PD} (sb : Sub G H) (r : Dg G v d) : TyX K H v (.type (tyN d)) := by
  cases r with
  | non => exact .base .non
  | bl b => exact .base (.bl b)
  | int i => exact .base (.int i)
  | str x => exact .base (.str x)
  | lst e a => exact .base (.lst (sb _ _ e))
  | tup e a => exact .base (.tup (sb _ _ e))
theorem isiT_of {T : String} {d : PD} (h : TyOkB T = true) (hd : isD d = true) : kitB (tyN d) T = some (isiT T d) := by
  cases d with
  | dict _ => cases hd
  | none => exact isi_kit h (a := "NoneType") (by simp)
  | bool _ => exact isi_kit h (a := "bool") (by simp)
  | int _ => exact isi_kit h (a := "int") (by simp)
  | str _ => exact isi_kit h (a := "str") (by simp)
  | list _ => exact isi_kit h (a := "list") (by simp)
  | tuple _ => exact isi_kit h (a := "tuple") (by simp)
theorem de_isi {T : String} {x : Str} {a : Expr} {fa : Mx B PD} {p p2 pos : Pos} (hT : TyOkB T = true) (hm : X.mg "isinstance" = none) (hm2 : X.mg x = none) (ha : DE X B O a fa) (hv2 : bootBuiltins x = some (.type T) := by decide +kernel) (hg : Gl X "isinstance" := by rfl) (hg2 : Gl X x := by rfl)
    (hv : bootBuiltins "isinstance" = some (.builtin "isinstance") := by decide +kernel) (hn2 : x ≠ "__name__" := by decide) (hd2 : (x == ("__debug__" : Str)) = false := by decide) (he : starEach [a, .Name x p2] X.env = (false, eval a X.env) :: starEach [.Name x p2] X.env := by rfl)
    (hpl : (backTo pos (starEach [.Name x p2] X.env)).any (·.1) = false := by rfl) : DE X B O (.Call (.Name "isinstance" p) [a, .Name x p2] [] pos) (cUn (pIsi T) fa) :=
  PE.imp (pe_callB call_isi hg hm hv (pa_cons ha (pa_cons (pe_bltn (v := .ty T) hg2 hm2 hv2 rfl hn2 hd2) pa_nil) he) (by decide) (by decide) he hpl) fun σ H Q h => by
    obtain ⟨G, ρ, s, a, p⟩ := h
    refine rdE.then a p fun v G1 H1 dx s1 a1 g1 rx p1 => ?_
    by_cases hd : isD dx = true
    · rw [if_pos hd] at p1
      have r := rx.dg (isD_tok hd)
      exact ⟨v, .ty T, _, _, isiT T dx, rfl, .ty T, ty_of a1.sit.sub r, kit_ty (isiT_of hT hd), p1.done a1.sit (.inl (.bl _))⟩
    · rw [if_neg hd] at p1; exact p1.elim
theorem tyOk_int : TyOkB "int" = true := by decide +kernel
theorem tyOk_bool : TyOkB "bool" = true := by decide +kernel
theorem tyOk_tuple : TyOkB "tuple" = true := by decide +kernel
theorem tyOk_list : TyOkB "list" = true := by decide +kernel
theorem tyOk_str : TyOkB "str" = true := by decide +kernel
end
end DL

/-! DL5: targets, statements -/
namespace DL
open PySem PySem.Spec PyProof.Rows L2
inductive Fl where
  | nx (ρ : Env) | rt (d : PD) | bk (ρ : Env) | ct (ρ : Env)
section
variable {X : Cx} {B : Bs} {O O' : List Nat}

/-! ### slots set -/
theorem RS.set {W : Wd} {G H H0 : Hp} {σ : St} {ρ : Env} {i : Nat} {v : V} {d : PD} (r : RS W G H H0 O σ ρ) (rv : Rp W.tk G v d) (hi : i ∉ O) : RS W G H H0 O (σ.set i (some v)) (ρ.set i (some d)) := by
  refine ⟨by rw [List.length_set, List.length_set]; exact r.len, fun j e h n => ?_, fun j e h m => ?_, fun j k p e f m1 m2 h1 h2 h3 h4 => ?_⟩
  · by_cases z : i = j
    · subst z
      by_cases hl : i < ρ.length
      · rw [List.getElem?_set_self hl] at h
        cases h
        exact ⟨v, List.getElem?_set_self (by rw [r.len]; exact hl), rv⟩
      · rw [List.getElem?_eq_none (by rw [List.length_set]; omega)] at h; cases h
    · rw [List.getElem?_set_ne z] at h
      obtain ⟨w, h1, h2⟩ := r.plain j e h n
      exact ⟨w, by rw [List.getElem?_set_ne z]; exact h1, h2⟩
  · have z : i ≠ j := fun z => hi (by rw [z]; exact m)
    rw [List.getElem?_set_ne z] at h
    obtain ⟨p, vs, ds, h1, h2⟩ := r.own j e h m
    exact ⟨p, vs, ds, by rw [List.getElem?_set_ne z]; exact h1, h2⟩
  · have z1 : i ≠ j := fun z => hi (by rw [z]; exact m1)
    have z2 : i ≠ k := fun z => hi (by rw [z]; exact m2)
    rw [List.getElem?_set_ne z1] at h1 h3
    rw [List.getElem?_set_ne z2] at h2 h4
    exact r.apart j k p e f m1 m2 h1 h2 h3 h4
theorem wipe_set_in {σ : St} {i : Nat} {x : Option V} : ∀ {vs : List Nat}, i ∈ vs → wipe (σ.set i x) vs = wipe σ vs
  | [], h => by simp at h
  | v :: vs, h => by
    show (wipe (σ.set i x) vs).set v none = (wipe σ vs).set v none
    by_cases m : i ∈ vs
    · rw [wipe_set_in m]
    · have e : v = i := by
        rcases List.mem_cons.mp h with z | z
        · exact z.symm
        · exact absurd z m
      subst e
      rw [wipe_set_out m, List.set_set]
where
  wipe_set_out {σ : St} {i : Nat} {x : Option V} : ∀ {vs : List Nat}, i ∉ vs → wipe (σ.set i x) vs = (wipe σ vs).set i x
  | [], _ => rfl
  | v :: vs, h => by
    show (wipe (σ.set i x) vs).set v none = ((wipe σ vs).set v none).set i x
    have h1 : i ∉ vs := fun z => h (List.mem_cons_of_mem _ z)
    have h2 : i ≠ v := fun z => h (by rw [z]; simp)
    rw [wipe_set_out h1, List.set_comm _ _ h2]

/-! ### targets -/
abbrev Bd := PD → Env → Option Env
abbrev Bds := List PD → Env → Option Env
def gRd (B : Bs) (O : List Nat) (b : Bd) (sl : List Nat) : TG := fun v σ H Q => ∃ G ρ d ρ', Sub G H ∧ RS B.W G H B.H0 O σ ρ ∧ Rp B.W.tk G v d ∧ b d ρ = some ρ' ∧
  ∀ σ', RS B.W G H B.H0 O σ' ρ' → (∀ vs : List Nat, (∀ i ∈ sl, i ∈ vs) → wipe σ' vs = wipe σ vs) → Q σ' H
def gRds (B : Bs) (O : List Nat) (b : Bds) (sl : List Nat) : TGs := fun v σ H Q => ∃ G ρ d ρ', Sub G H ∧ RS B.W G H B.H0 O σ ρ ∧ DgAll G v d ∧ b d ρ = some ρ' ∧
  ∀ σ', RS B.W G H B.H0 O σ' ρ' → (∀ vs : List Nat, (∀ i ∈ sl, i ∈ vs) → wipe σ' vs = wipe σ vs) → Q σ' H
abbrev DG (X : Cx) (B : Bs) (O : List Nat) (tg : Expr) (b : Bd) (sl : List Nat) : Prop := PG X tg (gRd B O b sl)
abbrev DGs (X : Cx) (B : Bs) (O : List Nat) (ts : List Expr) (b : Bds) (sl : List Nat) : Prop := PGs X ts (gRds B O b sl)
theorem PG.imp {tg : Expr} {t t' : TG} (h : PG X tg t) (i : ∀ v σ H Q, t' v σ H Q → t v σ H Q) : PG X tg t' := ⟨fun pins s σ H v u Q I r q => h.run pins s σ H v u Q I r (i v σ H Q q)⟩
theorem PGs.imp {ts : List Expr} {t t' : TGs} (h : PGs X ts t) (i : ∀ v σ H Q, t' v σ H Q → t v σ H Q) : PGs X ts t' := ⟨fun pins s σ H v u Q I r q => h.run pins s σ H v u Q I r (i v σ H Q q)⟩
def bNm (i : Nat) : Bd := fun d ρ => some (ρ.set i (some d))
def bTup (b : Bds) : Bd := fun d ρ => match d with
  | .tuple xs => b xs ρ
  | .list xs => b xs ρ
  | _ => none
def bNil : Bds := fun ds ρ => match ds with
  | [] => some ρ
  | _ => none
def bCons (b : Bd) (c : Bds) : Bds := fun ds ρ => match ds with
  | d :: r => match b d ρ with
    | some ρ' => c r ρ'
    | none => none
  | [] => none
theorem dg_name (i : Nat) {x : Str} {pos : Pos} (hN : X.N.Nodup) (hi : X.N[i]? = some x := by rfl) (hx : Loc X.env.scope x := by first | exact Or.inl rfl | exact Or.inr rfl) (hO : i ∉ O := by decide) (hf : X.fn x = true ∨ X.env.scope.names.lookup x = some .local := by first | exact .inl rfl | exact .inr rfl) : DG X B O (.Name x pos) (bNm i) [i] :=
  PG.imp (pg_name hN hi hx hf) fun v σ H Q h => by
    obtain ⟨G, ρ, d, ρ', sb, rs, rv, e, k⟩ := h
    cases e
    exact k _ (rs.set rv hO) fun vs hv => wipe_set_in (hv i (by simp))
theorem dgs_nil : DGs X B O [] bNil [] := PGs.imp pgs_nil fun v σ H Q h => by
  obtain ⟨G, ρ, d, ρ', sb, rs, rv, e, k⟩ := h
  cases d with
  | nil =>
    cases rv
    cases e
    exact ⟨rfl, k σ rs fun _ _ => rfl⟩
  | cons _ _ => cases e
theorem dgs_cons {t : Expr} {ts : List Expr} {b : Bd} {c : Bds} {sl sm : List Nat} (h1 : DG X B O t b sl) (h2 : DGs X B O ts c sm) (hs : (assignEach (t :: ts) X.env).map (·.2) = assign t X.env :: (assignEach ts X.env).map (·.2) := by rfl) : DGs X B O (t :: ts) (bCons b c) (sl ++ sm) :=
  PGs.imp (pgs_cons h1 h2 hs) fun v σ H Q h => by
    obtain ⟨G, ρ, d, ρ', sb, rs, rv, e, k⟩ := h
    cases rv with
    | nil => cases e
    | cons r1 r2 =>
      rename_i v vs d ds
      unfold bCons at e
      dsimp only at e
      cases e1 : b d ρ with
      | none => rw [e1] at e; cases e
      | some ρ1 =>
        rw [e1] at e
        refine ⟨v, vs, rfl, G, ρ, d, ρ1, sb, rs, .inl r1, e1, fun σ1 rs1 w1 => ?_⟩
        exact ⟨G, ρ1, ds, ρ', sb, rs1, r2, e, fun σ2 rs2 w2 => k σ2 rs2 fun vs hv => (w2 vs fun i hi => hv i (List.mem_append_right _ hi)).trans (w1 vs fun i hi => hv i (List.mem_append_left _ hi))⟩
theorem dgs_len {ts : List Expr} {c : Bds} {n : Nat} (h : ∀ ds ρ ρ', c ds ρ = some ρ' → ds.length = n) (ds : List PD) (ρ ρ' : Env) (e : c ds ρ = some ρ') : ds.length = n := h ds ρ ρ' e
def bLen (c : Bds) (n : Nat) : Prop := ∀ ds ρ ρ', c ds ρ = some ρ' → ds.length = n
theorem bLen_nil : bLen bNil 0 := fun ds ρ ρ' e => by
  cases ds with
  | nil => rfl
  | cons _ _ => cases e
theorem bLen_cons {b : Bd} {c : Bds} {n : Nat} (h : bLen c n) : bLen (bCons b c) (n + 1) := fun ds ρ ρ' e => by
  cases ds with
  | nil => cases e
  | cons d r =>
    unfold bCons at e
    dsimp only at e
    cases e1 : b d ρ with
    | none => rw [e1] at e; cases e
    | some ρ1 =>
      rw [e1] at e
      rw [List.length_cons, h r ρ1 ρ' e]
theorem PG.by {tg : Expr} {t' : TG} (h : ∀ v σ H Q, t' v σ H Q → ∃ t, PG X tg t ∧ t v σ H Q) : PG X tg t' := ⟨fun pins s σ H v u Q I r q => by
  obtain ⟨t, ht, q'⟩ := h v σ H Q q
  exact ht.run pins s σ H v u Q I r q'⟩
theorem dg_tup {es : List Expr} {k : Nat} {pos : Pos} {b : Bds} {sl : List Nat} {n : Nat} (hl : bLen b n) (h : DGs X B O es b sl) (hc : X.calm = true := by rfl) (hn : (assignEach es X.env).length = n := by rfl) (hst : (assignEach es X.env).findIdx? (·.1) = none := by rfl) : DG X B O (.Tuple es k pos) (bTup b) sl :=
  PG.by fun v σ H Q h => by
    obtain ⟨G, ρ, d, ρ', sb, rs, rv, e, kk⟩ := h
    unfold bTup at e
    split at e
    · rename_i xs
      obtain ⟨a, vs, rfl, ga, da⟩ := (rv.dg (isD_tok rfl)).of_tup
      exact ⟨_, pg_tup hc h hn hst, a, vs, rfl, SqT.of (sb _ _ ga), by rw [da.len]; exact hl _ _ _ e, G, ρ, xs, ρ', sb, rs, da, e, kk⟩
    · rename_i xs
      obtain ⟨a, vs, rfl, ga, da⟩ := (rv.dg (isD_tok rfl)).of_lst
      exact ⟨_, pg_lst hc h hn hst, a, vs, rfl, SqL.of (sb _ _ ga), by rw [da.len]; exact hl _ _ _ e, G, ρ, xs, ρ', sb, rs, da, e, kk⟩
    · cases e

/-! ### statements -/
abbrev Ms (B : Bs) := Env → B.W.d → R (Fl × B.W.d)
def PostS (B : Bs) (O' : List Nat) (D : Ends) (r : R (Fl × B.W.d)) : Prop :=
  match r with
  | .ok (.nx ρ', s') => ∀ σ' G' H', At B O' σ' H' G' ρ' s' → D.nx σ' H'
  | .ok (.bk ρ', s') => ∀ σ' G' H', At B O' σ' H' G' ρ' s' → D.bk σ' H'
  | .ok (.ct ρ', s') => ∀ σ' G' H', At B O' σ' H' G' ρ' s' → D.ct σ' H'
  | .ok (.rt d, s') => ∀ v G' H', Gr B.W.fp B.G0 B.H0 G' H' → Sit B.W G' H' s' → Rp B.W.tk G' v d → D.rt v H'
  | .exc c => ∀ G' H', Gr B.W.fp B.G0 B.H0 G' H' → B.E (.ref (B.W.cls c)) none H'
  | .bad => False
def rdS (B : Bs) (O O' : List Nat) (f : Ms B) : TS := fun D σ H => ∃ G ρ s, At B O σ H G ρ s ∧ PostS B O' D (f ρ s)
abbrev DS (X : Cx) (B : Bs) (O O' : List Nat) (st : Stmt) (f : Ms B) : Prop := PS X st (rdS B O O' f)
abbrev DSs (X : Cx) (B : Bs) (O O' : List Nat) (st : List Stmt) (f : Ms B) : Prop := PSs X st (rdS B O O' f)
def sNil {d : Type} : Env → d → R (Fl × d) := fun ρ s => .ok (.nx ρ, s)
def sSeq {d : Type} (f g : Env → d → R (Fl × d)) : Env → d → R (Fl × d) := fun ρ s => match f ρ s with
  | .ok (.nx ρ', s') => g ρ' s'
  | r => r
theorem dss_nil : DSs X B O O [] sNil := PSs.imp pss_nil fun D σ H h => by
  obtain ⟨G, ρ, s, a, p⟩ := h
  exact p σ G H a
/-- what owns less -/
theorem At.less {σ : St} {H G : Hp} {ρ : Env} {s : B.W.d} (a : At B O σ H G ρ s) (h : ∀ i ∈ O', i ∈ O) : ∃ G', At B O' σ H G' ρ s := by
  suffices hs : ∀ (l : List Nat) (O : List Nat) (G : Hp), At B O σ H G ρ s → ∃ G', At B (O.filter fun i => !l.contains i) σ H G' ρ s by
    obtain ⟨G', a'⟩ := hs (O.filter fun i => !O'.contains i) O G a
    refine ⟨G', a'.sit, a'.gr, a'.rs.len, fun i d e n => ?_, fun i d e m => ?_, fun i j p d e m1 m2 => ?_⟩
    · refine a'.rs.plain i d e fun z => ?_
      rw [List.mem_filter] at z
      have z2 := z.2
      rw [Bool.not_eq_true', List.contains_eq_mem, decide_eq_false_iff_not, List.mem_filter] at z2
      apply z2
      refine ⟨z.1, ?_⟩
      rw [Bool.not_eq_true', List.contains_eq_mem, decide_eq_false_iff_not]
      exact n
    · refine a'.rs.own i d e ?_
      rw [List.mem_filter]
      refine ⟨h i m, ?_⟩
      rw [Bool.not_eq_true', List.contains_eq_mem, decide_eq_false_iff_not, List.mem_filter]
      intro z
      have z2 := z.2
      rw [Bool.not_eq_true', List.contains_eq_mem, decide_eq_false_iff_not] at z2
      exact z2 m
    · refine a'.rs.apart i j p d e ?_ ?_
      · rw [List.mem_filter]
        refine ⟨h i m1, ?_⟩
        rw [Bool.not_eq_true', List.contains_eq_mem, decide_eq_false_iff_not, List.mem_filter]
        intro z
        have z2 := z.2
        rw [Bool.not_eq_true', List.contains_eq_mem, decide_eq_false_iff_not] at z2
        exact z2 m1
      · rw [List.mem_filter]
        refine ⟨h j m2, ?_⟩
        rw [Bool.not_eq_true', List.contains_eq_mem, decide_eq_false_iff_not, List.mem_filter]
        intro z
        have z2 := z.2
        rw [Bool.not_eq_true', List.contains_eq_mem, decide_eq_false_iff_not] at z2
        exact z2 m2
  intro l
  induction l with
  | nil =>
    intro O G a
    refine ⟨G, ?_⟩
    have e : (O.filter fun i => !([] : List Nat).contains i) = O := by simp
    rw [e]
    exact a
  | cons k l ih =>
    intro O G a
    -- freeze k
    have one : ∃ G', At B (O.filter fun i => decide (i ≠ k)) σ H G' ρ s := by
      by_cases mk : k ∈ O
      · cases ek : ρ[k]? with
        | none =>
          refine ⟨G, a.sit, a.gr, a.rs.len, fun i d e n => ?_, fun i d e m => a.rs.own i d e (List.mem_filter.mp m).1, fun i j p d e m1 m2 => a.rs.apart i j p d e (List.mem_filter.mp m1).1 (List.mem_filter.mp m2).1⟩
          refine a.rs.plain i d e fun z => n (List.mem_filter.mpr ⟨z, decide_eq_true fun q => ?_⟩)
          rw [q, ek] at e; cases e
        | some od =>
          cases od with
          | none =>
            refine ⟨G, a.sit, a.gr, a.rs.len, fun i d e n => ?_, fun i d e m => a.rs.own i d e (List.mem_filter.mp m).1, fun i j p d e m1 m2 => a.rs.apart i j p d e (List.mem_filter.mp m1).1 (List.mem_filter.mp m2).1⟩
            refine a.rs.plain i d e fun z => n (List.mem_filter.mpr ⟨z, decide_eq_true fun q => ?_⟩)
            rw [q, ek] at e; cases e
          | some dk =>
            obtain ⟨p, vs, ds, h1, h2, h3, h4, h5, h6, h7⟩ := a.rs.own k dk ek mk
            have sg : Sub G (upd G p (.lst vs)) := sub_upd h5
            have sh : Sub (upd G p (.lst vs)) H := fun x o e => by
              by_cases z : x = p
              · subst z; rw [upd_same] at e; cases e; exact h3
              · rw [upd_ne z] at e; exact a.sit.sub x o e
            have gr : Gr B.W.fp B.G0 B.H0 (upd G p (.lst vs)) H := ⟨fun x o e => sg x o (a.gr.g x o e), a.gr.h, a.gr.dom, fun x o e => by
              by_cases z : x = p
              · subst z; exact .inr h6
              · rw [upd_ne z] at e; exact a.gr.new x o e⟩
            have st : Sit B.W (upd G p (.lst vs)) H s := ⟨sh, fun x f => by
              have z : x ≠ p := fun z => h7 (by rw [← z]; exact f)
              rw [upd_ne z]; exact a.sit.fpG x f, a.sit.fpH, B.W.keep a.sit.rep sg fun _ _ _ e => e⟩
            refine ⟨upd G p (.lst vs), st, gr, a.rs.len, fun i d e n => ?_, fun i d e m => ?_, fun i j q d e m1 m2 => a.rs.apart i j q d e (List.mem_filter.mp m1).1 (List.mem_filter.mp m2).1⟩
            · by_cases z : i = k
              · subst z
                rw [ek] at e; cases e
                subst h2
                exact ⟨.ref p, h1, .inl (.lst upd_same (h4.mono sg))⟩
              · obtain ⟨v, q1, q2⟩ := a.rs.plain i d e fun w => n (List.mem_filter.mpr ⟨w, decide_eq_true z⟩)
                exact ⟨v, q1, q2.mono sg⟩
            · have m' := List.mem_filter.mp m
              have nk : i ≠ k := of_decide_eq_true m'.2
              obtain ⟨p', vs', ds', q1, q2, q3, q4, q5, q6, q7⟩ := a.rs.own i d e m'.1
              have np : p' ≠ p := fun z => nk (a.rs.apart i k p d dk m'.1 mk e ek (by rw [← z]; exact q1) h1)
              exact ⟨p', vs', ds', q1, q2, q3, q4.mono sg, by rw [upd_ne np]; exact q5, q6, q7⟩
      · refine ⟨G, ?_⟩
        have e : (O.filter fun i => decide (i ≠ k)) = O := List.filter_eq_self.mpr fun x hx => decide_eq_true fun z => mk (by rw [← z]; exact hx)
        rw [e]; exact a
    obtain ⟨G1, a1⟩ := one
    obtain ⟨G2, a2⟩ := ih _ G1 a1
    refine ⟨G2, ?_⟩
    have e : ((O.filter fun i => decide (i ≠ k)).filter fun i => !l.contains i) = O.filter fun i => !(k :: l).contains i := by
      rw [List.filter_filter]
      congr 1
      funext i
      simp only [List.contains_cons, ne_eq, decide_not]
      by_cases z : i = k
      · simp [z]
      · simp [z]
    rw [← e]
    exact a2
theorem PostS.less {D : Ends} {r : R (Fl × B.W.d)} (h : ∀ i ∈ O', i ∈ O) (p : PostS B O' D r) : PostS B O D r := by
  cases r with
  | ok x =>
    obtain ⟨f, s'⟩ := x
    cases f with
    | nx ρ => exact fun σ' G' H' a => let ⟨G2, a2⟩ := a.less h; p σ' G2 H' a2
    | bk ρ => exact fun σ' G' H' a => let ⟨G2, a2⟩ := a.less h; p σ' G2 H' a2
    | ct ρ => exact fun σ' G' H' a => let ⟨G2, a2⟩ := a.less h; p σ' G2 H' a2
    | rt d => exact p
  | exc c => exact p
  | bad => exact p
/-- owned before, read only from here on -/
theorem dss_less {O1 : List Nat} {sts : List Stmt} {f : Ms B} (h : ∀ i ∈ O1, i ∈ O) (hs : DSs X B O1 O' sts f) : DSs X B O O' sts f := PSs.imp hs fun D σ H q => by
  obtain ⟨G, ρ, s, a, p⟩ := q
  obtain ⟨G2, a2⟩ := a.less h
  exact ⟨G2, ρ, s, a2, p⟩
/-- owned behind, forgotten -/
theorem dss_post {O1 : List Nat} {sts : List Stmt} {f : Ms B} (h : ∀ i ∈ O', i ∈ O1) (hs : DSs X B O O1 sts f) : DSs X B O O' sts f := PSs.imp hs fun D σ H q => by
  obtain ⟨G, ρ, s, a, p⟩ := q
  exact ⟨G, ρ, s, a, p.less h⟩
theorem rd_seq {O1 : List Nat} {f g : Ms B} {D : Ends} {σ : St} {H : Hp} (h : rdS B O O' (sSeq f g) D σ H) (hO : ∀ i ∈ O', i ∈ O1) : tSeq (rdS B O O1 f) (rdS B O1 O' g) D σ H := by
  obtain ⟨G, ρ, s, a, p⟩ := h
  refine ⟨G, ρ, s, a, ?_⟩
  unfold sSeq at p
  cases e : f ρ s with
  | ok x =>
    obtain ⟨fl, s'⟩ := x
    rw [e] at p
    cases fl with
    | nx ρ' => exact fun σ' G' H' a' => ⟨G', ρ', s', a', p⟩
    | bk ρ' => exact fun σ' G' H' a' => let ⟨G2, a2⟩ := a'.less hO; p σ' G2 H' a2
    | ct ρ' => exact fun σ' G' H' a' => let ⟨G2, a2⟩ := a'.less hO; p σ' G2 H' a2
    | rt d => exact p
  | exc c => rw [e] at p; exact p
  | bad => rw [e] at p; exact p
theorem dss_cons {O1 : List Nat} {st : Stmt} {rest : List Stmt} {f g : Ms B} (h1 : DS X B O O1 st f) (h2 : DSs X B O1 O' rest g) (hO : ∀ i ∈ O', i ∈ O1 := by decide) : DSs X B O O' (st :: rest) (sSeq f g) := PSs.imp (pss_cons h1 h2) fun D σ H q => rd_seq q hO
theorem dss_one {st : Stmt} {f : Ms B} (h1 : DS X B O O' st f) : DSs X B O O' [st] f := pss_one h1
end
end DL

/-! DL6: the statements -/
namespace DL
open PySem PySem.Spec PyProof.Rows L2
section
variable {X : Cx} {B : Bs} {O O' : List Nat}
theorem rdE.thenS {f : Mx B PD} {σ : St} {H : Hp} {Q : VK} {D : Ends} {G : Hp} {ρ : Env} {s : B.W.d} {k : PD → B.W.d → R (Fl × B.W.d)}
    (a : At B O σ H G ρ s) (p : PostS B O' D (bnd (f ρ s) k)) (h : ∀ v G1 H1 d s1, At B O σ H1 G1 ρ s1 → Gr B.W.fp G H G1 H1 → Rp B.W.tk G1 v d → PostS B O' D (k d s1) → Q v H1) : rdE B O f σ H Q :=
  rdE.fst a (fun _ _ r => PostS B O' D r) (fun _ p => p) (fun p G' H' g => p G' H' (a.gr.trans g)) (fun p => p) p h
theorem rdT.thenS {f : Mx B Bool} {σ : St} {H : Hp} {Q : Bool → Hp → Prop} {D : Ends} {G : Hp} {ρ : Env} {s : B.W.d} {k : Bool → B.W.d → R (Fl × B.W.d)}
    (a : At B O σ H G ρ s) (p : PostS B O' D (bnd (f ρ s) k)) (h : ∀ x G1 H1 s1, At B O σ H1 G1 ρ s1 → Gr B.W.fp G H G1 H1 → PostS B O' D (k x s1) → Q x H1) : rdT B O f σ H Q :=
  rdT.fst a (fun _ _ r => PostS B O' D r) (fun _ p => p) (fun p G' H' g => p G' H' (a.gr.trans g)) (fun p => p) p h
theorem rdA.thenS {f : Mx B (List PD)} {σ : St} {H : Hp} {Q : List V → Hp → Prop} {D : Ends} {G : Hp} {ρ : Env} {s : B.W.d} {k : List PD → B.W.d → R (Fl × B.W.d)}
    (a : At B O σ H G ρ s) (p : PostS B O' D (bnd (f ρ s) k)) (h : ∀ vs G1 H1 ds s1, At B O σ H1 G1 ρ s1 → Gr B.W.fp G H G1 H1 → RpAll B.W.tk G1 vs ds → PostS B O' D (k ds s1) → Q vs H1) : rdA B O f σ H Q :=
  rdA.fst a (fun _ _ r => PostS B O' D r) (fun _ p => p) (fun p G' H' g => p G' H' (a.gr.trans g)) (fun p => p) p h

/-! ### x = e, targets = e -/
def sSet {d : Type} (i : Nat) (f : Env → d → R (PD × d)) : Env → d → R (Fl × d) := fun ρ s => bnd (f ρ s) fun x s1 => .ok (.nx (ρ.set i (some x)), s1)
theorem ds_set (i : Nat) {x : Str} {e : Expr} {fe : Mx B PD} {pos pos' : Pos} (hN : X.N.Nodup) (he : DE X B O e fe) (hi : X.N[i]? = some x := by rfl) (hx : Loc X.env.scope x := by first | exact Or.inl rfl | exact Or.inr rfl) (hO : i ∉ O := by decide)
    (hs : swapsWith e (some (.Name x pos')) pos.line X.env = pure false := by rfl) (hf : X.fn x = true ∨ X.env.scope.names.lookup x = some .local := by first | exact .inl rfl | exact .inr rfl) : DS X B O O (.Assign [.Name x pos'] e pos) (sSet i fe) :=
  PS.imp (ps_set hN hi hx he hs hf) fun D σ H h => by
    obtain ⟨G, ρ, s, a, p⟩ := h
    refine rdE.thenS a p fun v G1 H1 d s1 a1 g1 rv p1 => ?_
    exact p1 _ G1 H1 ⟨a1.sit, a1.gr, a1.rs.set rv hO⟩
def sAsg {d : Type} (b : Bd) (f : Env → d → R (PD × d)) : Env → d → R (Fl × d) := fun ρ s => bnd (f ρ s) fun x s1 => match b x ρ with
  | some ρ' => .ok (.nx ρ', s1)
  | none => .bad
theorem ds_asg {tg e : Expr} {b : Bd} {sl : List Nat} {fe : Mx B PD} {pos : Pos} (he : DE X B O e fe) (hg : DG X B O tg b sl) (hs : swapsWithSole [tg] e pos.line X.env = pure false := by rfl) (hw : swappedStores [tg] e X.env = pure none := by rfl)
    (h1 : (assignEach [tg] X.env).map (·.2) = [assign tg X.env] := by rfl) : DS X B O O (.Assign [tg] e pos) (sAsg b fe) :=
  PS.imp (ps_asg he hg hs hw h1) fun D σ H h => by
    obtain ⟨G, ρ, s, a, p⟩ := h
    refine rdE.thenS a p fun v G1 H1 d s1 a1 g1 rv p1 => ?_
    cases e1 : b d ρ with
    | none => rw [e1] at p1; exact p1.elim
    | some ρ' =>
      rw [e1] at p1
      exact ⟨G1, ρ, d, ρ', a1.sit.sub, a1.rs, rv, e1, fun σ' rs' _ => p1 σ' G1 H1 ⟨a1.sit, a1.gr, rs'⟩⟩
/-- a, b = x, y -/
def sPar {d : Type} (i j : Nat) (f : Env → d → R (List PD × d)) : Env → d → R (Fl × d) := fun ρ s => bnd (f ρ s) fun xs s1 => match xs with
  | [x, y] => .ok (.nx ((ρ.set i (some x)).set j (some y)), s1)
  | _ => .bad
theorem ds_par (i j : Nat) {x y : Str} {a b : Expr} {fa : Mx B (List PD)} {px py pt pos : Pos} {kt k2 : Nat} {pt2 : Pos} (hN : X.N.Nodup) (ha : DA X B O [a, b] fa) (hc : X.calm = true := by rfl) (hi : X.N[i]? = some x := by rfl) (hj : X.N[j]? = some y := by rfl) (hij : i ≠ j := by decide) (hOi : i ∉ O := by decide) (hOj : j ∉ O := by decide)
    (hx : X.env.scope.names.lookup x = some .local := by rfl) (hy : X.env.scope.names.lookup y = some .local := by rfl)
    (hw : swappedStores [.Tuple [.Name x px, .Name y py] kt pt] (.Tuple [a, b] k2 pt2) X.env = pure (some [x, y]) := by rfl)
    (hs : swapsWithSole [.Tuple [.Name x px, .Name y py] kt pt] (.Tuple [a, b] k2 pt2) pos.line X.env = pure false := by rfl) : DS X B O O (.Assign [.Tuple [.Name x px, .Name y py] kt pt] (.Tuple [a, b] k2 pt2) pos) (sPar i j fa) :=
  PS.imp (ps_par hc hN hi hj hij hx hy ha hw hs) fun D σ H h => by
    obtain ⟨G, ρ, s, a, p⟩ := h
    refine rdA.thenS a p fun vs G1 H1 ds s1 a1 g1 rv p1 => ?_
    cases rv with
    | nil => exact p1.elim
    | cons r1 r2 =>
      cases r2 with
      | nil => exact p1.elim
      | cons r2 r3 =>
        cases r3 with
        | nil => exact ⟨_, _, rfl, p1 _ G1 H1 ⟨a1.sit, a1.gr, (a1.rs.set r1 hOi).set r2 hOj⟩⟩
        | cons _ _ => exact p1.elim
def sPar3 {d : Type} (i j l : Nat) (f : Env → d → R (List PD × d)) : Env → d → R (Fl × d) := fun ρ s => bnd (f ρ s) fun xs s1 => match xs with
  | [x, y, z] => .ok (.nx (((ρ.set i (some x)).set j (some y)).set l (some z)), s1)
  | _ => .bad
theorem ds_par3 (i j l : Nat) {x y z : Str} {a b c : Expr} {fa : Mx B (List PD)} {px py pz pt pos : Pos} {kt k2 : Nat} {pt2 : Pos} (hN : X.N.Nodup) (ha : DA X B O [a, b, c] fa) (hc : X.calm = true := by rfl) (hi : X.N[i]? = some x := by rfl) (hj : X.N[j]? = some y := by rfl) (hl : X.N[l]? = some z := by rfl)
    (hij : i ≠ j := by decide) (hil : i ≠ l := by decide) (hjl : j ≠ l := by decide) (hOi : i ∉ O := by decide) (hOj : j ∉ O := by decide) (hOl : l ∉ O := by decide)
    (hx : X.env.scope.names.lookup x = some .local := by rfl) (hy : X.env.scope.names.lookup y = some .local := by rfl) (hz : X.env.scope.names.lookup z = some .local := by rfl)
    (hw : swappedStores [.Tuple [.Name x px, .Name y py, .Name z pz] kt pt] (.Tuple [a, b, c] k2 pt2) X.env = pure (some [x, y, z]) := by rfl)
    (hs : swapsWithSole [.Tuple [.Name x px, .Name y py, .Name z pz] kt pt] (.Tuple [a, b, c] k2 pt2) pos.line X.env = pure false := by rfl) : DS X B O O (.Assign [.Tuple [.Name x px, .Name y py, .Name z pz] kt pt] (.Tuple [a, b, c] k2 pt2) pos) (sPar3 i j l fa) :=
  PS.imp (ps_par3 hc hN hi hj hl hij hil hjl hx hy hz ha hw hs) fun D σ H h => by
    obtain ⟨G, ρ, s, a, p⟩ := h
    refine rdA.thenS a p fun vs G1 H1 ds s1 a1 g1 rv p1 => ?_
    cases rv with
    | nil => exact p1.elim
    | cons r1 r2 =>
      cases r2 with
      | nil => exact p1.elim
      | cons r2 r3 =>
        cases r3 with
        | nil => exact p1.elim
        | cons r3 r4 =>
          cases r4 with
          | nil => exact ⟨_, _, _, rfl, p1 _ G1 H1 ⟨a1.sit, a1.gr, ((a1.rs.set r1 hOi).set r2 hOj).set r3 hOl⟩⟩
          | cons _ _ => exact p1.elim
/-- x += e, ints -/
def sAug {d : Type} (i : Nat) (f : Env → d → R (PD × d)) : Env → d → R (Fl × d) := fun ρ s => match ρ[i]? with
  | some (some (.int a)) => bnd (f ρ s) fun x s1 => match x with
    | .int b => .ok (.nx (ρ.set i (some (.int (a + b)))), s1)
    | _ => .bad
  | _ => .bad
theorem ds_aug (i : Nat) {x : Str} {e : Expr} {fe : Mx B PD} {pos pos' : Pos} (hN : X.N.Nodup) (he : DE X B O e fe) (hi : X.N[i]? = some x := by rfl) (hx : Loc X.env.scope x := by first | exact Or.inl rfl | exact Or.inr rfl) (hO : i ∉ O := by decide)
    (hf : X.fn x = true ∨ X.env.scope.names.lookup x = some .local := by first | exact .inl rfl | exact .inr rfl) : DS X B O O (.AugAssign (.Name x pos') .Add e pos) (sAug i fe) :=
  PS.imp (ps_aug hN hi hx he ip_add hf) fun D σ H h => by
    obtain ⟨G, ρ, s, a, p⟩ := h
    unfold sAug at p
    split at p
    · rename_i k e1
      obtain ⟨v, h1, h2⟩ := a.rs.plain i _ e1 hO
      refine ⟨v, h1, ?_⟩
      refine rdE.thenS a p fun w G1 H1 d s1 a1 g1 rv p1 => ?_
      cases d with
      | int b => exact ⟨_, _, (h2.dg (isD_tok rfl)).of_int, (rv.dg (isD_tok rfl)).of_int, p1 _ G1 H1 ⟨a1.sit, a1.gr, a1.rs.set (.inl (.int _)) hO⟩⟩
      | _ => exact p1.elim
    · exact p.elim
/-! ### return, if, an expression, pass -/
def sRet {d : Type} (f : Env → d → R (PD × d)) : Env → d → R (Fl × d) := fun ρ s => bnd (f ρ s) fun x s1 => .ok (.rt x, s1)
theorem ds_ret {e : Expr} {fe : Mx B PD} {pos : Pos} (he : DE X B O e fe) : DS X B O O' (.Return (some e) pos) (sRet fe) :=
  PS.imp (ps_ret he) fun D σ H h => by
    obtain ⟨G, ρ, s, a, p⟩ := h
    exact rdE.thenS a p fun v G1 H1 d s1 a1 g1 rv p1 => p1 v G1 H1 a1.gr a1.sit rv
def sIf {d : Type} (t : Env → d → R (Bool × d)) (f g : Env → d → R (Fl × d)) : Env → d → R (Fl × d) := fun ρ s => bnd (t ρ s) fun x s1 => if x = true then f ρ s1 else g ρ s1
theorem ds_if {c : Expr} {a b : List Stmt} {fc : Mx B Bool} {f g : Ms B} {pos : Pos} (hc : DT X B O c fc) (ha : DSs X B O O' a f) (hb : DSs X B O O' b g) : DS X B O O' (.If c a b pos) (sIf fc f g) :=
  PS.imp (ps_if hc ha hb) fun D σ H h => by
    obtain ⟨G, ρ, s, a, p⟩ := h
    refine rdT.thenS a p fun x G1 H1 s1 a1 g1 p1 => ?_
    cases x with
    | true => exact ⟨G1, ρ, s1, a1, p1⟩
    | false => exact ⟨G1, ρ, s1, a1, p1⟩
def sExpr {d : Type} (f : Env → d → R (PD × d)) : Env → d → R (Fl × d) := fun ρ s => bnd (f ρ s) fun _ s1 => .ok (.nx ρ, s1)
theorem ds_expr {e : Expr} {fe : Mx B PD} {pos : Pos} (he : DE X B O e fe) (hs : swapsWith e none pos.line X.env = pure false := by rfl) : DS X B O O (.Expr e pos) (sExpr fe) :=
  PS.imp (ps_expr he hs) fun D σ H h => by
    obtain ⟨G, ρ, s, a, p⟩ := h
    exact rdE.thenS a p fun v G1 H1 d s1 a1 g1 rv p1 => p1 σ G1 H1 a1
theorem ds_pass {pos : Pos} : DS X B O O (.Pass pos) sNil := PS.imp ps_pass fun D σ H h => by
  obtain ⟨G, ρ, s, a, p⟩ := h
  exact p σ G H a
theorem ds_cont {pos : Pos} : DS X B O O (.Continue pos) (fun ρ s => .ok (.ct ρ, s)) := PS.imp ps_continue fun D σ H h => by
  obtain ⟨G, ρ, s, a, p⟩ := h
  exact p σ G H a
/-- a statement that is never come to -/
def sBad {d : Type} : Env → d → R (Fl × d) := fun _ _ => .bad
theorem ds_bad {st : Stmt} : DS X B O O' st sBad := PS.imp ps_never fun D σ H h => by
  obtain ⟨G, ρ, s, a, p⟩ := h
  exact p
/-! ### raise -/
structure ExcC (X : Cx) (B : Bs) (c : Nat) (x : Str) : Prop where
  exc : PySem.W.excIn X.K (B.W.cls c) [.type "ValueError", .type "Exception", .type "BaseException", .type "object"] "ValueError.__new__" = true
  glob : X.mg x = some (.ref (B.W.cls c))
  keep : PySem.W.keepIn X.K (.ref (B.W.cls c)) = true
  rais : Raises X (.ref (B.W.cls c))
def sRaise {d : Type} (c : Nat) : Env → d → R (Fl × d) := fun _ _ => .exc c
theorem ds_raise {c : Nat} {x m : Str} {j : Nat} {p p2 p3 pos : Pos} (tk : Takes X (fun cls d _ H => B.E cls d H)) (C : ExcC X B c x) (hc : X.calm = true := by rfl) (hg : Gl X x := by rfl) (hdb : (x == ("__debug__" : Str)) = false := by decide) :
    DS X B O O' (.Raise (some (.Call (.Name x p) [.Constant (.str m) j p2] [] p3)) none pos) (sRaise c) :=
  PS.imp (ps_raise hc tk (pmk_own PySem.F.excBase_ValueError C.exc C.glob C.keep C.rais hg hdb)) fun D σ H h => by
    obtain ⟨G, ρ, s, a, q⟩ := h
    exact q G H a.gr

/-! ### for -/
/-- an iterator that yields these data -/
def ItOk (G : Hp) (J : It) (items : List PD) : Prop := ∀ (i : Nat) (G1 H1 : Hp), Sub G G1 → Sub G1 H1 →
  (i < items.length → J.go i H1) ∧ (items.length ≤ i → J.stop i H1) ∧
  ∀ x H2 d, items[i]? = some d → J.yld i H1 x H2 → ∃ G2, Gr (fun _ => False) G1 H1 G2 H2 ∧ Sub G2 H2 ∧ Dg G2 x d
def PostI (B : Bs) (G H : Hp) (r : R (List PD × B.W.d)) (R : It → Hp → Prop) : Prop :=
  match r with
  | .ok (items, s') => ∀ J G' H', Gr B.W.fp G H G' H' → Sit B.W G' H' s' → ItOk G' J items → R J H'
  | .exc c => ∀ G' H', Gr B.W.fp G H G' H' → B.E (.ref (B.W.cls c)) none H'
  | .bad => False
theorem PostI.mono {G H G1 H1 : Hp} {r : R (List PD × B.W.d)} {R : It → Hp → Prop} (g : Gr B.W.fp G H G1 H1) (h : PostI B G H r R) : PostI B G1 H1 r R := by
  cases r with
  | ok x => exact fun v G' H' g' S' R' => h v G' H' (g.trans g') S' R'
  | exc c => exact fun G' H' g' => h G' H' (g.trans g')
  | bad => exact h
def rdI (B : Bs) (O : List Nat) (f : Mx B (List PD)) : TI := fun σ H R => ∃ G ρ s, At B O σ H G ρ s ∧ PostI B G H (f ρ s) R
abbrev DI (X : Cx) (B : Bs) (O : List Nat) (tg e : Expr) (f : Mx B (List PD)) : Prop := PI X tg e (rdI B O f)
def sForGo {d : Type} (b : Bd) (body : Env → d → R (Fl × d)) : List PD → Env → d → R (Fl × d)
  | [], ρ, s => .ok (.nx ρ, s)
  | x :: xs, ρ, s => match b x ρ with
    | none => .bad
    | some ρ1 => match body ρ1 s with
      | .ok (.nx ρ2, s2) => sForGo b body xs ρ2 s2
      | .ok (.ct ρ2, s2) => sForGo b body xs ρ2 s2
      | .ok (.bk ρ2, s2) => .ok (.nx ρ2, s2)
      | .ok (.rt v, s2) => .ok (.rt v, s2)
      | .exc c => .exc c
      | .bad => .bad
def sFor {d : Type} (it : Env → d → R (List PD × d)) (b : Bd) (body : Env → d → R (Fl × d)) : Env → d → R (Fl × d) := fun ρ s => bnd (it ρ s) fun xs s1 => sForGo b body xs ρ s1
/-- the ghost heap's ground raised -/
abbrev Bs.up (B : Bs) (g : Hp) : Bs := { B with G0 := g }
theorem Gr.back {fp : Addr → Prop} {G0 H0 G1 H1 G2 H2 : Hp} (a : Gr fp G0 H0 G1 H1) (b : Gr fp G1 H0 G2 H2) : Gr fp G0 H0 G2 H2 :=
  ⟨fun x o h => b.g x o (a.g x o h), b.h, b.dom, fun x o h => by
    rcases b.new x o h with z | z
    · exact a.new x o z
    · exact .inr z⟩
theorem At.up {σ : St} {H G : Hp} {ρ : Env} {s : B.W.d} (a : At B O σ H G ρ s) : At (B.up G) O σ H G ρ s := ⟨a.sit, ⟨fun _ _ h => h, a.gr.h, a.gr.dom, fun _ _ h => .inl h⟩, a.rs⟩
theorem At.down {σ : St} {H G G1 H1 : Hp} {ρ : Env} {s : B.W.d} (g : Gr B.W.fp B.G0 B.H0 G1 H1) (a : At (B.up G1) O σ H G ρ s) : At B O σ H G ρ s := ⟨a.sit, g.back a.gr, a.rs⟩
theorem ds_for {tg iter : Expr} {body : List Stmt} {fi : Mx B (List PD)} {b : Bd} {sl : List Nat} {f : Ms B} {pos : Pos} (hp : PassesOwn (model X.prog X.w) X.A X.env X.xe) (hi : DI X B O tg iter fi) (hg : DG X B O tg b sl) (hb : ∀ g : Hp, DSs X (B.up g) O O body f) (hc : X.calm = true := by rfl)
    (hs : ∀ x, foldedSetIterable iter X.env x = pure x := by intro _; rfl) : DS X B O O (.For tg iter body [] pos) (sFor fi b f) := by
  have hb' : PSs X body (fun D σ H => ∃ g, rdS (B.up g) O O f D σ H) := ⟨fun pins s σ H D I h => by
    obtain ⟨g, h⟩ := h
    exact (hb g).run pins s σ H D I h⟩
  refine PS.imp (ps_for hp hc hi hg hb' hs) fun D σ H h => ?_
  obtain ⟨G, ρ, s, a, p⟩ := h
  refine ⟨G, ρ, s, a, ?_⟩
  unfold sFor at p
  cases e : fi ρ s with
  | exc c => rw [e] at p; exact fun G' H' g => p G' H' (a.gr.trans g)
  | bad => rw [e] at p; exact p.elim
  | ok x =>
    obtain ⟨items, s1⟩ := x
    rw [e] at p
    intro J G1 H1 g1 S1 ok
    have a1 := a.step g1 S1
    refine ⟨fun i m σ H => i + m = items.length ∧ ∃ G ρ s, At (B.up G1) O σ H G ρ s ∧ PostS B O D (sForGo b f (items.drop i) ρ s), ⟨items.length, by omega, G1, ρ, s1, a1.up, p⟩, fun i m σ H hW => ?_⟩
    obtain ⟨em, G, ρ, s, a, p⟩ := hW
    by_cases hl : i < items.length
    · obtain ⟨go, _, yl⟩ := ok i G H a.gr.g a.sit.sub
      refine .inr ⟨go hl, fun σ' H' => ∃ G ρ s, At (B.up G1) O σ' H' G ρ s ∧ PostS B O D (sForGo b f (items.drop (i + 1)) ρ s), fun σ' H' hN => ?_, fun x H' hy => ?_⟩
      · obtain ⟨G', ρ', s', q2, q3⟩ := hN
        exact ⟨m - 1, by omega, by omega, G', ρ', s', q2, q3⟩
      · obtain ⟨G2, g2, sb2, dx⟩ := yl x H' items[i] (List.getElem?_eq_getElem hl) hy
        have a2 := a.step (g2.weak fun _ z => z.elim) (a.sit.pure g2 sb2)
        rw [List.drop_eq_getElem_cons hl] at p
        unfold sForGo at p
        cases eb : b items[i] ρ with
        | none => rw [eb] at p; exact p.elim
        | some ρ1 =>
          rw [eb] at p
          dsimp only at p
          refine ⟨G2, ρ, items[i], ρ1, sb2, a2.rs, .inl dx, eb, fun σ' rs' _ => ⟨G1, G2, ρ1, s, ⟨a2.sit, a2.gr, rs'⟩, ?_⟩⟩
          cases ef : f ρ1 s with
          | bad => rw [ef] at p; exact p.elim
          | exc c => rw [ef] at p; exact fun G' H' g => p G' H' (a1.gr.back g)
          | ok y =>
            obtain ⟨fl, s2⟩ := y
            rw [ef] at p
            cases fl with
            | nx ρ2 => exact fun σ'' G'' H'' a'' => ⟨G'', ρ2, s2, a'', p⟩
            | ct ρ2 => exact fun σ'' G'' H'' a'' => ⟨G'', ρ2, s2, a'', p⟩
            | bk ρ2 => exact fun σ'' G'' H'' a'' => p σ'' G'' H'' (At.down a1.gr a'')
            | rt v => exact fun w G'' H'' g'' S'' r'' => p w G'' H'' (a1.gr.back g'') S'' r''
    · have hge : items.length ≤ i := by omega
      obtain ⟨_, st, _⟩ := ok i G H a.gr.g a.sit.sub
      refine .inl ⟨st hge, ?_⟩
      rw [List.drop_eq_nil_of_le hge] at p
      exact p σ G H (At.down a1.gr a)

/-! ### while -/
def sWhGo {d : Type} (t : Env → d → R (Bool × d)) (body : Env → d → R (Fl × d)) : Nat → Env → d → R (Fl × d)
  | 0, _, _ => .bad
  | n + 1, ρ, s => bnd (t ρ s) fun x s1 => if x = true then
      match body ρ s1 with
      | .ok (.nx ρ2, s2) => sWhGo t body n ρ2 s2
      | .ok (.ct ρ2, s2) => sWhGo t body n ρ2 s2
      | .ok (.bk ρ2, s2) => .ok (.nx ρ2, s2)
      | .ok (.rt v, s2) => .ok (.rt v, s2)
      | .exc c => .exc c
      | .bad => .bad
    else .ok (.nx ρ, s1)
def sWhile {d : Type} (n : Env → Nat) (t : Env → d → R (Bool × d)) (body : Env → d → R (Fl × d)) : Env → d → R (Fl × d) := fun ρ s => sWhGo t body (n ρ) ρ s
theorem ds_while {c : Expr} {body : List Stmt} {n : Env → Nat} {fc : Mx B Bool} {f : Ms B} {pos : Pos} (hp : PassesOwn (model X.prog X.w) X.A X.env X.xe) (hc : DT X B O c fc) (hb : DSs X B O O body f) : DS X B O O (.While c body [] pos) (sWhile n fc f) := by
  refine PS.imp (ps_while hp hc hb) fun D σ H h => ?_
  obtain ⟨G, ρ, s, a, p⟩ := h
  refine ⟨fun m σ H => ∃ G ρ s, At B O σ H G ρ s ∧ PostS B O D (sWhGo fc f m ρ s), ⟨n ρ, G, ρ, s, a, p⟩, fun m σ H hW => ?_⟩
  obtain ⟨G, ρ, s, a, p⟩ := hW
  cases m with
  | zero => exact p.elim
  | succ m =>
    unfold sWhGo at p
    refine rdT.thenS a p fun x G1 H1 s1 a1 g1 p1 => ?_
    cases x with
    | false => exact p1 σ G1 H1 a1
    | true =>
      refine ⟨fun σ' H' => ∃ G ρ s, At B O σ' H' G ρ s ∧ PostS B O D (sWhGo fc f m ρ s), fun σ' H' hN => ⟨m, Nat.lt_succ_self m, hN⟩, G1, ρ, s1, a1, ?_⟩
      rw [if_pos rfl] at p1
      cases ef : f ρ s1 with
      | bad => rw [ef] at p1; exact p1.elim
      | exc c => rw [ef] at p1; exact p1
      | ok y =>
        obtain ⟨fl, s2⟩ := y
        rw [ef] at p1
        cases fl with
        | nx ρ2 => exact fun σ'' G'' H'' a'' => ⟨G'', ρ2, s2, a'', p1⟩
        | ct ρ2 => exact fun σ'' G'' H'' a'' => ⟨G'', ρ2, s2, a'', p1⟩
        | bk ρ2 => exact fun σ'' G'' H'' a'' => p1 σ'' G'' H'' a''
        | rt v => exact p1
end
end DL

/-! DL7: what is walked; comprehensions -/
namespace DL
open PySem PySem.Spec PyProof.Rows L2
section
variable {X : Cx} {B : Bs} {O O' : List Nat} {tg : Expr}
theorem rdE.thenI {f : Mx B PD} {σ : St} {H : Hp} {Q : VK} {R' : It → Hp → Prop} {G : Hp} {ρ : Env} {s : B.W.d} {k : PD → B.W.d → R (List PD × B.W.d)}
    (a : At B O σ H G ρ s) (p : PostI B G H (bnd (f ρ s) k) R') (h : ∀ v G1 H1 d s1, At B O σ H1 G1 ρ s1 → Gr B.W.fp G H G1 H1 → Rp B.W.tk G1 v d → PostI B G1 H1 (k d s1) R' → Q v H1) : rdE B O f σ H Q :=
  rdE.fst a (fun G H r => PostI B G H r R') (fun g p => p.mono g) (fun p => p) (fun p => p) p h
theorem rdA.thenI {f : Mx B (List PD)} {σ : St} {H : Hp} {Q : List V → Hp → Prop} {R' : It → Hp → Prop} {G : Hp} {ρ : Env} {s : B.W.d} {k : List PD → B.W.d → R (List PD × B.W.d)}
    (a : At B O σ H G ρ s) (p : PostI B G H (bnd (f ρ s) k) R') (h : ∀ vs G1 H1 ds s1, At B O σ H1 G1 ρ s1 → Gr B.W.fp G H G1 H1 → RpAll B.W.tk G1 vs ds → PostI B G1 H1 (k ds s1) R' → Q vs H1) : rdA B O f σ H Q :=
  rdA.fst a (fun G H r => PostI B G H r R') (fun g p => p.mono g) (fun p => p) (fun p => p) p h
theorem sq_inj {K : PySem.W.Frag} {H : Hp} {a : Addr} {xs ys : List V} (h : H a = some (.lst xs)) (hy : Rd H a (.lst ys)) : ys = xs := by
  rcases hy with z | ⟨o, z⟩
  · rw [h] at z; cases z; rfl
  · rw [h] at z; cases z
/-- a list walked -/
def iLst {d : Type} (f : Env → d → R (PD × d)) : Env → d → R (List PD × d) := fun ρ s => bnd (f ρ s) fun x s1 => match x with
  | .list xs => .ok (xs, s1)
  | _ => .bad
def iTp {d : Type} (f : Env → d → R (PD × d)) : Env → d → R (List PD × d) := fun ρ s => bnd (f ρ s) fun x s1 => match x with
  | .tuple xs => .ok (xs, s1)
  | _ => .bad
theorem it_list {K : PySem.W.Frag} {G : Hp} {a : Addr} {xs : List V} {ds : List PD} (ga : G a = some (.lst xs)) (da : DgAll G xs ds) : ItOk G (Itl K a) ds := fun i G1 H1 s1 s2 => by
  have h1 : H1 a = some (.lst xs) := s2 _ _ (s1 _ _ ga)
  refine ⟨fun hl => ?_, fun hl => ⟨xs, SqL.of h1, by rw [da.len]; exact hl⟩, fun x H2 d e hy => ?_⟩
  · obtain ⟨v, e1, _⟩ := da.get (List.getElem?_eq_getElem hl)
    exact ⟨xs, v, SqL.of h1, e1⟩
  · obtain ⟨rfl, q⟩ := hy
    obtain ⟨v, e1, r⟩ := da.get e
    have e2 := q xs (SqL.of h1)
    rw [e1] at e2; cases e2
    exact ⟨G1, .refl, s2, r.mono s1⟩
theorem it_tup {K : PySem.W.Frag} {G : Hp} {a : Addr} {xs : List V} {ds : List PD} (ga : G a = some (.tup xs)) (da : DgAll G xs ds) : ItOk G (Itt K a) ds := fun i G1 H1 s1 s2 => by
  have h1 : H1 a = some (.tup xs) := s2 _ _ (s1 _ _ ga)
  refine ⟨fun hl => ?_, fun hl => ⟨xs, SqT.of h1, by rw [da.len]; exact hl⟩, fun x H2 d e hy => ?_⟩
  · obtain ⟨v, e1, _⟩ := da.get (List.getElem?_eq_getElem hl)
    exact ⟨xs, v, SqT.of h1, e1⟩
  · obtain ⟨rfl, q⟩ := hy
    obtain ⟨v, e1, r⟩ := da.get e
    have e2 := q xs (SqT.of h1)
    rw [e1] at e2; cases e2
    exact ⟨G1, .refl, s2, r.mono s1⟩
theorem di_list {e : Expr} {f : Mx B PD} (he : DE X B O e f) : DI X B O tg e (iLst f) := PI.imp (pi_list he) fun σ H R h => by
  obtain ⟨G, ρ, s, a, p⟩ := h
  refine rdE.thenI a p fun v G1 H1 d s1 a1 g1 rv p1 => ?_
  cases d with
  | list ds =>
    obtain ⟨l, vs, rfl, gl, dl⟩ := (rv.dg (isD_tok rfl)).of_lst
    exact ⟨l, rfl, ⟨vs, SqL.of (a1.sit.sub _ _ gl)⟩, p1 _ G1 H1 .refl a1.sit (it_list gl dl)⟩
  | _ => exact p1.elim
theorem di_tup {e : Expr} {f : Mx B PD} (he : DE X B O e f) : DI X B O tg e (iTp f) := PI.imp (pi_tup he) fun σ H R h => by
  obtain ⟨G, ρ, s, a, p⟩ := h
  refine rdE.thenI a p fun v G1 H1 d s1 a1 g1 rv p1 => ?_
  cases d with
  | tuple ds =>
    obtain ⟨l, vs, rfl, gl, dl⟩ := (rv.dg (isD_tok rfl)).of_tup
    exact ⟨l, rfl, ⟨vs, SqT.of (a1.sit.sub _ _ gl)⟩, p1 _ G1 H1 .refl a1.sit (it_tup gl dl)⟩
  | _ => exact p1.elim
/-- range -/
def rngL (lo c : Int) (n : Nat) : List PD := (List.range n).map fun (i : Nat) => PyData.int (lo + (i : Int) * c)
theorem it_rng {G : Hp} {lo : Int} {n : Nat} : ItOk G (Itr lo n) (rngL lo 1 n) := fun i G1 H1 s1 s2 => by
  have hl : (rngL lo 1 n).length = n := by simp [rngL]
  rw [hl]
  refine ⟨fun h => h, fun h => h, fun x H2 d e hy => ?_⟩
  obtain ⟨rfl, rfl⟩ := hy
  have hi : i < n := by
    have := (List.getElem?_eq_some_iff.mp e).1
    rwa [hl] at this
  have e2 : d = .int (lo + i) := by
    unfold rngL at e
    rw [List.getElem?_map, List.getElem?_range hi, Option.map_some, Option.some.injEq, Int.mul_one] at e
    exact e.symm
  subst e2
  exact ⟨G1, .refl, s2, .int _⟩
theorem it_rngC {G : Hp} {lo c : Int} {n : Nat} : ItOk G (Itc lo c n) (rngL lo c n) := fun i G1 H1 s1 s2 => by
  have hl : (rngL lo c n).length = n := by simp [rngL]
  rw [hl]
  refine ⟨fun h => h, fun h => h, fun x H2 d e hy => ?_⟩
  obtain ⟨rfl, rfl⟩ := hy
  have hi : i < n := by
    have := (List.getElem?_eq_some_iff.mp e).1
    rwa [hl] at this
  have e2 : d = .int (lo + i * c) := by
    unfold rngL at e
    rw [List.getElem?_map, List.getElem?_range hi, Option.map_some, Option.some.injEq] at e
    exact e.symm
  subst e2
  exact ⟨G1, .refl, s2, .int _⟩
def in62 (i : Int) : Bool := decide (-(2 ^ 62) ≤ i) && decide (i < 2 ^ 62)
def iRg1 {d : Type} (f : Env → d → R (List PD × d)) : Env → d → R (List PD × d) := fun ρ s => bnd (f ρ s) fun xs s1 => match xs with
  | [.int j] => if in62 j then .ok (rngL 0 1 j.toNat, s1) else .bad
  | _ => .bad
def iRg2 {d : Type} (f : Env → d → R (List PD × d)) : Env → d → R (List PD × d) := fun ρ s => bnd (f ρ s) fun xs s1 => match xs with
  | [.int i, .int j] => if in62 i && in62 j then .ok (rngL i 1 (j - i).toNat, s1) else .bad
  | _ => .bad
def iRg3 {d : Type} (f : Env → d → R (List PD × d)) : Env → d → R (List PD × d) := fun ρ s => bnd (f ρ s) fun xs s1 => match xs with
  | [.int i, .int j, .int c] => if in62 i && in62 j && decide (c = -1) then .ok (rngL i (-1) (i - j).toNat, s1) else .bad
  | _ => .bad
theorem in62_of {i : Int} (h : in62 i = true) : -(2 ^ 62) ≤ i ∧ i < 2 ^ 62 := by
  unfold in62 at h
  rw [Bool.and_eq_true, decide_eq_true_eq, decide_eq_true_eq] at h
  exact h
theorem di_range1 {a : Expr} {fa : Mx B (List PD)} {p pos : Pos} (hm : X.mg "range" = none) (ha : DA X B O [a] fa) (hg : Gl X "range" := by rfl) (hs : starEach [a] X.env = [(false, eval a X.env)] := by rfl) : DI X B O tg (.Call (.Name "range" p) [a] [] pos) (iRg1 fa) := PI.imp (pi_range1 hg hm ha hs) fun σ H R h => by
  obtain ⟨G, ρ, s, a, p⟩ := h
  refine rdA.thenI a p fun vs G1 H1 ds s1 a1 g1 rv p1 => ?_
  split at p1
  · rename_i j
    split at p1
    · rename_i hj
      have q := in62_of hj
      cases rv with
      | cons r1 r2 =>
        cases r2
        exact ⟨j, by rw [(r1.dg (isD_tok rfl)).of_int], q.1, q.2, p1 _ G1 H1 .refl a1.sit it_rng⟩
    · exact p1.elim
  · exact p1.elim
theorem di_range2 {a b : Expr} {fa : Mx B (List PD)} {p pos : Pos} (hm : X.mg "range" = none) (ha : DA X B O [a, b] fa) (hg : Gl X "range" := by rfl) (hs : starEach [a, b] X.env = [(false, eval a X.env), (false, eval b X.env)] := by rfl) (hs2 : starEach [b] X.env = [(false, eval b X.env)] := by rfl) : DI X B O tg (.Call (.Name "range" p) [a, b] [] pos) (iRg2 fa) := PI.imp (pi_range2 hg hm ha hs hs2) fun σ H R h => by
  obtain ⟨G, ρ, s, a, p⟩ := h
  refine rdA.thenI a p fun vs G1 H1 ds s1 a1 g1 rv p1 => ?_
  split at p1
  · rename_i i j
    split at p1
    · rename_i hj
      rw [Bool.and_eq_true] at hj
      cases rv with
      | cons r1 r2 =>
        cases r2 with
        | cons r2 r3 =>
          cases r3
          exact ⟨i, j, by rw [(r1.dg (isD_tok rfl)).of_int, (r2.dg (isD_tok rfl)).of_int], ⟨(in62_of hj.1).1, (in62_of hj.1).2, (in62_of hj.2).1, (in62_of hj.2).2⟩, p1 _ G1 H1 .refl a1.sit it_rng⟩
    · exact p1.elim
  · exact p1.elim
theorem di_range3 {a b c : Expr} {fa : Mx B (List PD)} {p pos : Pos} (hm : X.mg "range" = none) (ha : DA X B O [a, b, c] fa) (hg : Gl X "range" := by rfl) (hs : starEach [a, b, c] X.env = (false, eval a X.env) :: starEach [b, c] X.env := by rfl) (hpl : (backTo pos (starEach [b, c] X.env)).any (·.1) = false := by rfl) : DI X B O tg (.Call (.Name "range" p) [a, b, c] [] pos) (iRg3 fa) := PI.imp (pi_range3 hg hm ha hs hpl) fun σ H R h => by
  obtain ⟨G, ρ, s, a, p⟩ := h
  refine rdA.thenI a p fun vs G1 H1 ds s1 a1 g1 rv p1 => ?_
  split at p1
  · rename_i i j c
    split at p1
    · rename_i hj
      rw [Bool.and_eq_true, Bool.and_eq_true, decide_eq_true_eq] at hj
      obtain ⟨⟨h1, h2⟩, rfl⟩ := hj
      cases rv with
      | cons r1 r2 =>
        cases r2 with
        | cons r2 r3 =>
          cases r3 with
          | cons r3 r4 =>
            cases r4
            exact ⟨i, j, -1, (i - j).toNat, by rw [(r1.dg (isD_tok rfl)).of_int, (r2.dg (isD_tok rfl)).of_int, (r3.dg (isD_tok rfl)).of_int], RgC.neg (in62_of h1).1 (in62_of h1).2 (in62_of h2).1 (in62_of h2).2, p1 _ G1 H1 .refl a1.sit it_rngC⟩
    · exact p1.elim
  · exact p1.elim
/-- zip, enumerate of lists -/
def zipD : List PD → List PD → List PD
  | x :: xs, y :: ys => .tuple [x, y] :: zipD xs ys
  | _, _ => []
theorem zipD_len : ∀ (xs ys : List PD), (zipD xs ys).length = min xs.length ys.length
  | [], _ => by simp [zipD]
  | _ :: _, [] => by simp [zipD]
  | x :: xs, y :: ys => by simp [zipD, zipD_len xs ys]
theorem zipD_get : ∀ (xs ys : List PD) (i : Nat) (d : PD), (zipD xs ys)[i]? = some d → ∃ x y, xs[i]? = some x ∧ ys[i]? = some y ∧ d = .tuple [x, y]
  | [], _, _, _, h => by simp [zipD] at h
  | _ :: _, [], _, _, h => by simp [zipD] at h
  | x :: xs, y :: ys, 0, d, h => by simp [zipD] at h; exact ⟨x, y, rfl, rfl, h.symm⟩
  | x :: xs, y :: ys, i + 1, d, h => by
    simp only [zipD, List.getElem?_cons_succ] at h
    obtain ⟨a, b, h1, h2, h3⟩ := zipD_get xs ys i d h
    exact ⟨a, b, by simpa using h1, by simpa using h2, h3⟩
theorem it_zip {K : PySem.W.Frag} {G : Hp} {a b : Addr} {xs ys : List V} {ds es : List PD} (ga : G a = some (.lst xs)) (da : DgAll G xs ds) (gb : G b = some (.lst ys)) (db : DgAll G ys es) : ItOk G (Itz K a b) (zipD ds es) := fun i G1 H1 s1 s2 => by
  have h1 : H1 a = some (.lst xs) := s2 _ _ (s1 _ _ ga)
  have h2 : H1 b = some (.lst ys) := s2 _ _ (s1 _ _ gb)
  have hl := zipD_len ds es
  refine ⟨fun h => ?_, fun h => ⟨xs, ys, SqL.of h1, SqL.of h2, ?_⟩, fun x H2 d e hy => ?_⟩
  · obtain ⟨v, e1, _⟩ := da.get (List.getElem?_eq_getElem (show i < ds.length by omega))
    obtain ⟨w, e2, _⟩ := db.get (List.getElem?_eq_getElem (show i < es.length by omega))
    exact ⟨xs, ys, v, w, SqL.of h1, SqL.of h2, e1, e2⟩
  · rw [da.len, db.len]; omega
  · obtain ⟨T, v, w, rfl, nT, rfl, q1, q2⟩ := hy
    obtain ⟨x, y, e1, e2, rfl⟩ := zipD_get ds es i d e
    obtain ⟨v', f1, r1⟩ := da.get e1
    obtain ⟨w', f2, r2⟩ := db.get e2
    have z1 := q1 xs (SqL.of h1)
    have z2 := q2 ys (SqL.of h2)
    rw [f1, Option.some.injEq] at z1
    rw [f2, Option.some.injEq] at z2
    subst z1 z2
    have g := Gr.alloc (fp := fun _ => False) (o := .tup [v', w']) s2 nT
    exact ⟨upd G1 T (.tup [v', w']), g, subA s2 nT, .tup upd_same (.cons ((r1.mono s1).mono g.g) (.cons ((r2.mono s1).mono g.g) .nil))⟩
def iZp {d : Type} (f : Env → d → R (List PD × d)) : Env → d → R (List PD × d) := fun ρ s => bnd (f ρ s) fun xs s1 => match xs with
  | [.list a, .list b] => .ok (zipD a b, s1)
  | _ => .bad
theorem di_zip {elts : List Expr} {kk : Nat} {tpos : Pos} {e e2 : Expr} {fa : Mx B (List PD)} {p pos : Pos} (hm : X.mg "zip" = none) (ha : DA X B O [e, e2] fa) (hg : Gl X "zip" := by rfl) (hs : starEach [e, e2] X.env = (false, eval e X.env) :: starEach [e2] X.env := by rfl) (hpl : (backTo pos (starEach [e2] X.env)).any (·.1) = false := by rfl) :
    DI X B O (.Tuple elts kk tpos) (.Call (.Name "zip" p) [e, e2] [] pos) (iZp fa) := PI.imp (pi_zip hg hm ha hs hpl) fun σ H R h => by
  obtain ⟨G, ρ, s, a, p⟩ := h
  refine rdA.thenI a p fun vs G1 H1 ds s1 a1 g1 rv p1 => ?_
  split at p1
  · rename_i xs ys
    cases rv with
    | cons r1 r2 =>
      cases r2 with
      | cons r2 r3 =>
        cases r3
        obtain ⟨l, us, rfl, gl, dl⟩ := (r1.dg (isD_tok rfl)).of_lst
        obtain ⟨m, ws, rfl, gm, dm⟩ := (r2.dg (isD_tok rfl)).of_lst
        exact ⟨l, m, us, ws, rfl, SqL.of (a1.sit.sub _ _ gl), SqL.of (a1.sit.sub _ _ gm), p1 _ G1 H1 .refl a1.sit (it_zip gl dl gm dm)⟩
  · exact p1.elim
def enumD : Nat → List PD → List PD
  | _, [] => []
  | n, x :: xs => .tuple [.int n, x] :: enumD (n + 1) xs
theorem enumD_len : ∀ (n : Nat) (xs : List PD), (enumD n xs).length = xs.length
  | _, [] => rfl
  | n, x :: xs => by simp [enumD, enumD_len (n + 1) xs]
theorem enumD_get : ∀ (n : Nat) (xs : List PD) (i : Nat) (d : PD), (enumD n xs)[i]? = some d → ∃ x, xs[i]? = some x ∧ d = .tuple [.int ((n + i : Nat) : Int), x]
  | _, [], _, _, h => by simp [enumD] at h
  | n, x :: xs, 0, d, h => by simp [enumD] at h; exact ⟨x, rfl, h.symm⟩
  | n, x :: xs, i + 1, d, h => by
    simp only [enumD, List.getElem?_cons_succ] at h
    obtain ⟨a, h1, h3⟩ := enumD_get (n + 1) xs i d h
    exact ⟨a, by simpa using h1, by rw [h3]; congr 3; omega⟩
theorem it_enum {K : PySem.W.Frag} {G : Hp} {a : Addr} {xs : List V} {ds : List PD} (ga : G a = some (.lst xs)) (da : DgAll G xs ds) : ItOk G (Ite K a) (enumD 0 ds) := fun i G1 H1 s1 s2 => by
  have h1 : H1 a = some (.lst xs) := s2 _ _ (s1 _ _ ga)
  have hl := enumD_len 0 ds
  refine ⟨fun h => ?_, fun h => ⟨xs, SqL.of h1, by rw [da.len]; omega⟩, fun x H2 d e hy => ?_⟩
  · obtain ⟨v, e1, _⟩ := da.get (List.getElem?_eq_getElem (show i < ds.length by omega))
    exact ⟨xs, v, SqL.of h1, e1⟩
  · obtain ⟨T, v, rfl, nT, rfl, q1⟩ := hy
    obtain ⟨x, e1, rfl⟩ := enumD_get 0 ds i d e
    obtain ⟨v', f1, r1⟩ := da.get e1
    have z1 := q1 xs (SqL.of h1)
    rw [f1, Option.some.injEq] at z1
    subst z1
    have g := Gr.alloc (fp := fun _ => False) (o := .tup [.int (i : Nat), v']) s2 nT
    refine ⟨upd G1 T (.tup [.int (i : Nat), v']), g, subA s2 nT, .tup upd_same (.cons ?_ (.cons ((r1.mono s1).mono g.g) .nil))⟩
    rw [Nat.zero_add]
    exact .int _
def iEn {d : Type} (f : Env → d → R (PD × d)) : Env → d → R (List PD × d) := fun ρ s => bnd (f ρ s) fun x s1 => match x with
  | .list xs => .ok (enumD 0 xs, s1)
  | _ => .bad
theorem di_enum {elts : List Expr} {kk : Nat} {tpos : Pos} {e : Expr} {f : Mx B PD} {p pos : Pos} (hm : X.mg "enumerate" = none) (he : DE X B O e f) (hg : Gl X "enumerate" := by rfl) (hs : starEach [e] X.env = [(false, eval e X.env)] := by rfl) :
    DI X B O (.Tuple elts kk tpos) (.Call (.Name "enumerate" p) [e] [] pos) (iEn f) := PI.imp (pi_enum hg hm (pa_cons he pa_nil hs) hs) fun σ H R h => by
  obtain ⟨G, ρ, s, a, p⟩ := h
  refine rdE.thenI a p fun v G1 H1 d s1 a1 g1 rv p1 => ?_
  cases d with
  | list ds =>
    obtain ⟨l, vs, rfl, gl, dl⟩ := (rv.dg (isD_tok rfl)).of_lst
    exact ⟨l, vs, rfl, SqL.of (a1.sit.sub _ _ gl), p1 _ G1 H1 .refl a1.sit (it_enum gl dl)⟩
  | _ => exact p1.elim
/-- the signs of a text -/
def iSt {d : Type} (f : Env → d → R (PD × d)) : Env → d → R (List PD × d) := fun ρ s => bnd (f ρ s) fun x s1 => match x with
  | .str z => .ok (z.cps.toList.map fun c => .str ⟨#[c]⟩, s1)
  | _ => .bad
theorem it_str {G : Hp} {z : Str} : ItOk G (Its z) (z.cps.toList.map fun c => PyData.str ⟨#[c]⟩) := fun i G1 H1 s1 s2 => by
  have hl : (z.cps.toList.map fun c => PyData.str ⟨#[c]⟩).length = z.cps.size := by simp
  rw [hl]
  refine ⟨fun h => h, fun h => h, fun x H2 d e hy => ?_⟩
  obtain ⟨rfl, c, e1, rfl⟩ := hy
  rw [List.getElem?_map, Array.getElem?_toList, e1, Option.map_some, Option.some.injEq] at e
  subst e
  exact ⟨G1, .refl, s2, .str _⟩
theorem di_str {e : Expr} {f : Mx B PD} (he : DE X B O e f) : DI X B O tg e (iSt f) := PI.imp (pi_str he) fun σ H R h => by
  obtain ⟨G, ρ, s, a, p⟩ := h
  refine rdE.thenI a p fun v G1 H1 d s1 a1 g1 rv p1 => ?_
  cases d with
  | str z => exact ⟨z, (rv.dg (isD_tok rfl)).of_str, p1 _ G1 H1 .refl a1.sit it_str⟩
  | _ => exact p1.elim

/-! ### comprehensions -/
def wipeD (ρ : Env) : List Nat → Env
  | [] => ρ
  | v :: vs => (wipeD ρ vs).set v none
theorem wipeD_get {ρ : Env} {i : Nat} {d : PD} : ∀ {vs : List Nat}, (wipeD ρ vs)[i]? = some (some d) → ρ[i]? = some (some d) ∧ i ∉ vs
  | [], h => ⟨h, by simp⟩
  | v :: vs, h => by
    unfold wipeD at h
    by_cases z : v = i
    · subst z
      by_cases hl : v < (wipeD ρ vs).length
      · rw [List.getElem?_set_self hl] at h; cases h
      · rw [List.getElem?_eq_none (by rw [List.length_set]; omega)] at h; cases h
    · rw [List.getElem?_set_ne z] at h
      obtain ⟨h1, h2⟩ := wipeD_get h
      exact ⟨h1, by simp [h2, Ne.symm z]⟩
theorem wipeD_len (ρ : Env) : ∀ vs : List Nat, (wipeD ρ vs).length = ρ.length
  | [] => rfl
  | v :: vs => by unfold wipeD; rw [List.length_set, wipeD_len ρ vs]
theorem RS.wipe {W : Wd} {G H H0 : Hp} {σ : St} {ρ : Env} (r : RS W G H H0 O σ ρ) (vs : List Nat) : RS W G H H0 O (wipe σ vs) (wipeD ρ vs) := by
  have out : ∀ {i : Nat}, i ∉ vs → (L2.wipe σ vs)[i]? = σ[i]? := fun h => wipe_out h
  refine ⟨by rw [wipe_length, wipeD_len]; exact r.len, fun i d e n => ?_, fun i d e m => ?_, fun i j p d e m1 m2 h1 h2 h3 h4 => ?_⟩
  · obtain ⟨h1, h2⟩ := wipeD_get e
    rw [out h2]
    exact r.plain i d h1 n
  · obtain ⟨h1, h2⟩ := wipeD_get e
    rw [out h2]
    exact r.own i d h1 m
  · obtain ⟨q1, q2⟩ := wipeD_get h1
    obtain ⟨q3, q4⟩ := wipeD_get h2
    rw [out q2] at h3
    rw [out q4] at h4
    exact r.apart i j p d e m1 m2 q1 q3 h3 h4
def noX {a : Type} (r : R a) : R a := match r with
  | .ok x => .ok x
  | _ => .bad
@[simp] theorem noX_ok {a : Type} (x : a) : noX (.ok x) = .ok x := rfl
def compGo {d : Type} (b : Bd) (own : List Nat) (t : Env → d → R (Bool × d)) (f : Env → d → R (PD × d)) (ρ : Env) : List PD → d → R (List PD × d)
  | [], s => .ok ([], s)
  | x :: xs, s => match b x (wipeD ρ own) with
    | none => .bad
    | some ρ1 => bnd (noX (t ρ1 s)) fun c s1 => if c = true then bnd (noX (f ρ1 s1)) fun y s2 => if isD y then bnd (compGo b own t f ρ xs s2) fun ys s3 => .ok (y :: ys, s3) else .bad
      else compGo b own t f ρ xs s1
def cComp {d : Type} (it : Env → d → R (List PD × d)) (b : Bd) (own : List Nat) (t : Env → d → R (Bool × d)) (f : Env → d → R (PD × d)) : Env → d → R (PD × d) := fun ρ s =>
  bnd (it ρ s) fun xs s1 => if xs.length ≤ 100000 then bnd (compGo b own t f ρ xs s1) fun ys s2 => .ok (.list ys, s2) else .bad
def tYesD {d : Type} : Env → d → R (Bool × d) := fun _ s => .ok (true, s)
abbrev Bs.blk (B : Bs) : Bs := { B with E := E0 }
abbrev DTs (X : Cx) (B : Bs) (O : List Nat) (es : List Expr) (f : Mx B Bool) : Prop := PTs X es (rdT B O f)
theorem dts_nil : DTs X B O [] tYesD := ⟨fun pins s σ H Q I h => by
  obtain ⟨G, ρ, s, a, p⟩ := h
  exact pts_nil.run pins _ σ H Q I (p.done a.sit)⟩
theorem dts_one {e : Expr} {f : Mx B Bool} (h : DT X B O e f) : DTs X B O [e] f := pts_one h
theorem compGo_len {d : Type} {b : Bd} {own : List Nat} {t : Env → d → R (Bool × d)} {f : Env → d → R (PD × d)} {ρ : Env} : ∀ (xs : List PD) (s : d) (ys : List PD) (s' : d), compGo b own t f ρ xs s = .ok (ys, s') → ys.length ≤ xs.length
  | [], s, ys, s', h => by cases h; simp
  | x :: xs, s, ys, s', h => by
    unfold compGo at h
    cases eb : b x (wipeD ρ own) with
    | none => rw [eb] at h; cases h
    | some ρ1 =>
      rw [eb] at h
      dsimp only at h
      cases et : t ρ1 s with
      | exc c => rw [et] at h; cases h
      | bad => rw [et] at h; cases h
      | ok y =>
        obtain ⟨c, s1⟩ := y
        rw [et, noX_ok, bnd_ok] at h
        cases c with
        | false =>
          have := compGo_len xs s1 ys s' h
          rw [List.length_cons]; omega
        | true =>
          rw [if_pos rfl] at h
          cases ef : f ρ1 s1 with
          | exc c => rw [ef] at h; cases h
          | bad => rw [ef] at h; cases h
          | ok z =>
            obtain ⟨w, s2⟩ := z
            rw [ef, noX_ok, bnd_ok] at h
            split at h
            · cases eg : compGo b own t f ρ xs s2 with
              | exc c => rw [eg] at h; cases h
              | bad => rw [eg] at h; cases h
              | ok z =>
                obtain ⟨zs, s3⟩ := z
                rw [eg] at h
                cases h
                have := compGo_len xs s2 zs _ eg
                simp only [List.length_cons]; omega
            · cases h
/-- an object of our own is written -/
theorem At.write {σ : St} {H G : Hp} {ρ : Env} {s : B.W.d} {D : Addr} {o u : HO} (a : At B O σ H G ρ s) (gD : G D = none) (hD : H D = some u) (h0 : B.H0 D = none) (fD : ¬ B.W.fp D) (hne : ∀ i d, i ∈ O → ρ[i]? = some (some d) → σ[i]? ≠ some (some (.ref D))) : At B O σ (upd H D o) G ρ s := by
  refine ⟨⟨fun x w h => ?_, a.sit.fpG, fun x f z => ?_, B.W.keep a.sit.rep (fun _ _ e => e) fun x w f h => ?_⟩, ⟨a.gr.g, fun x w n h => ?_, fun x h => ?_, a.gr.new⟩, a.rs.len, a.rs.plain, fun i d e m => ?_, a.rs.apart⟩
  · have z : x ≠ D := ne_of_none h gD
    rw [upd_ne z]; exact a.sit.sub x w h
  · have q : x ≠ D := fun q => fD (by rw [← q]; exact f)
    rw [upd_ne q] at z; exact a.sit.fpH x f z
  · have q : x ≠ D := fun q => fD (by rw [← q]; exact f)
    rw [upd_ne q]; exact h
  · have z : x ≠ D := ne_of_none h h0
    rw [upd_ne z]; exact a.gr.h x w n h
  · by_cases z : x = D
    · subst z; exact h0
    · rw [upd_ne z] at h; exact a.gr.dom x h
  · obtain ⟨p, vs, ds, h1, h2, h3, h4, h5, h6, h7⟩ := a.rs.own i d e m
    have z : p ≠ D := fun z => hne i d m e (by rw [← z]; exact h1)
    exact ⟨p, vs, ds, h1, h2, by rw [upd_ne z]; exact h3, h4, h5, h6, h7⟩
theorem Gr.write {fp : Addr → Prop} {G H G1 H1 : Hp} {D : Addr} {o : HO} (g : Gr fp G H G1 H1) (nD : H D = none) : Gr fp G H G1 (upd H1 D o) :=
  ⟨g.g, fun x w n h => by rw [upd_ne (ne_of_none h nD)]; exact g.h x w n h, fun x h => by
    by_cases z : x = D
    · subst z; exact nD
    · rw [upd_ne z] at h; exact g.dom x h, g.new⟩
theorem bnd_assoc {a b c d : Type} (r : DL.R (a × d)) (k : a → d → DL.R (b × d)) (l : b → d → DL.R (c × d)) : bnd (bnd r k) l = bnd r fun x s => bnd (k x s) l := by
  cases r <;> rfl
theorem rd_lc {fi : Mx B (List PD)} {b : Bd} {sl own : List Nat} {ft : Mx B Bool} {fe : Mx B PD} {σ : St} {H : Hp} {Q : VK} (hsl : ∀ i ∈ sl, i ∈ own) (h : rdE B O (cComp fi b own ft fe) σ H Q) :
    tLc (rdI B O fi) (gRd B.blk O b sl) (rdT B.blk O ft) (rdE B.blk O fe) own σ H Q := by
  obtain ⟨G, ρ, s, a, p⟩ := h
  refine ⟨G, ρ, s, a, ?_⟩
  unfold cComp at p
  cases e : fi ρ s with
  | exc c => rw [e] at p; exact p
  | bad => rw [e] at p; exact p
  | ok x =>
    obtain ⟨items, s1⟩ := x
    rw [e, bnd_ok] at p
    intro J G1 H1 g1 S1 ok D nD
    have a1 := a.step g1 S1
    by_cases hlen : items.length ≤ 100000
    · rw [if_pos hlen] at p
      have p := PostE.mono g1 p
      -- the new list is known to the heap alone
      have aD : At B O σ (upd H1 D (.lst [])) G1 ρ s1 := a1.step (Gr.allocH nD) (a1.sit.allocH nD)
      have gD : G1 D = none := by
        cases q : G1 D with
        | none => rfl
        | some o => rw [a1.sit.sub _ _ q] at nD; cases nD
      have fD : ¬ B.W.fp D := fun z => a1.sit.fpH D z nD
      have h0D : B.H0 D = none := a1.gr.dom D nD
      have hneD : ∀ i d, i ∈ O → ρ[i]? = some (some d) → σ[i]? ≠ some (some (.ref D)) := fun i d m e z => by
        obtain ⟨q, vs, ds, h1, h2, h3, _⟩ := a1.rs.own i d e m
        rw [z] at h1; cases h1
        rw [nD] at h3; cases h3
      let Wv : Nat → Nat → Hp → Prop := fun i m H => i + m = items.length ∧ ∃ G s acc ds, At B O σ H G ρ s ∧ Gr B.W.fp G1 H1 G H ∧ H D = some (.lst acc) ∧ G D = none ∧ DgAll G acc ds ∧ acc.length ≤ i ∧
        PostE B G1 H1 (bnd (compGo b own ft fe ρ (items.drop i) s) fun ys s2 => .ok (.list (ds ++ ys), s2)) Q
      refine ⟨Wv, ⟨items.length, by omega, G1, s1, [], [], aD, Gr.allocH nD, upd_same, gD, .nil, Nat.le_refl _, p⟩, fun i m H hW => ?_⟩
      obtain ⟨em, G, s, acc, ds, a, g, hD, gD, da, hi, p⟩ := hW
      by_cases hl : i < items.length
      · obtain ⟨go, _, yl⟩ := ok i G H g.g a.sit.sub
        refine .inr ⟨go hl, fun H' => Wv (i + 1) (m - 1) H', fun H' hN => ⟨m - 1, by omega, hN⟩, fun x H' hy => ?_⟩
        obtain ⟨G2, g2, sb2, dx⟩ := yl x H' items[i] (List.getElem?_eq_getElem hl) hy
        have g2' := g2.weak (fp' := B.W.fp) fun _ z => z.elim
        have a2 := a.step g2' (a.sit.pure g2 sb2)
        rw [List.drop_eq_getElem_cons hl] at p
        unfold compGo at p
        cases eb : b items[i] (wipeD ρ own) with
        | none => rw [eb] at p; exact p.elim
        | some ρ1 =>
          rw [eb] at p
          dsimp only at p
          refine ⟨G2, wipeD ρ own, items[i], ρ1, sb2, a2.rs.wipe own, .inl dx, eb, fun σ' rs' wp => ⟨?_, ?_⟩⟩
          · rw [wp own hsl]
            -- wiping twice
            clear p wp rs'
            have tw : ∀ (vs : List Nat) (us : List Nat), (∀ v ∈ vs, v ∈ us) → wipe (wipe σ us) vs = wipe σ us := by
              intro vs us
              induction vs with
              | nil => intro _; rfl
              | cons v vs ih =>
                intro hv
                show (wipe (wipe σ us) vs).set v none = wipe σ us
                rw [ih fun w hw => hv w (List.mem_cons_of_mem _ hw)]
                have hn : ∀ y, (wipe σ us)[v]? ≠ some (some y) := fun y q => (wipe_some q).2 (hv v (by simp))
                apply List.ext_getElem?
                intro k
                by_cases hk : v = k
                · subst hk
                  by_cases hlt : v < (wipe σ us).length
                  · rw [List.getElem?_set_self hlt]
                    cases q : (wipe σ us)[v]? with
                    | none => rw [List.getElem?_eq_none_iff] at q; omega
                    | some y =>
                      cases y with
                      | none => rfl
                      | some y => exact absurd q (hn y)
                  · rw [List.getElem?_eq_none (by rw [List.length_set]; omega), List.getElem?_eq_none (by omega)]
                · rw [List.getElem?_set_ne hk]
            exact tw own own fun _ h => h
          · -- the test
            have a3 : At B.blk O σ' H' G2 ρ1 s := ⟨a2.sit, a2.gr, rs'⟩
            have gt2 := g.trans g2'
            refine ⟨G2, ρ1, s, a3, ?_⟩
            cases et : ft ρ1 s with
            | bad => rw [et] at p; exact p.elim
            | exc c => rw [et] at p; exact p.elim
            | ok y =>
              obtain ⟨c, s2⟩ := y
              rw [et, noX_ok, bnd_ok] at p
              intro G3 H3 g3 S3
              have a4 : At B O σ H3 G3 ρ s2 := a2.step g3 S3
              have gt3 := gt2.trans g3
              have hD2 : H' D = some (.lst acc) := g2'.h D _ fD hD
              have hD3 : H3 D = some (.lst acc) := g3.h D _ fD hD2
              have nG : ∀ {G' H' : Hp}, Gr B.W.fp G H G' H' → G' D = none := fun {G' H'} gg => by
                cases q : G' D with
                | none => rfl
                | some o =>
                  rcases gg.new D o q with z | z
                  · rw [gD] at z; cases z
                  · rw [hD] at z; cases z
              have gD3 : G3 D = none := nG (g2'.trans g3)
              cases c with
              | false => exact ⟨by omega, G3, s2, acc, ds, a4, gt3, hD3, gD3, da.mono (g2'.trans g3).g, by omega, p⟩
              | true =>
                rw [if_pos rfl] at p
                have a5 : At B.blk O σ' H3 G3 ρ1 s2 := a3.step g3 S3
                refine ⟨G3, ρ1, s2, a5, ?_⟩
                cases ef : fe ρ1 s2 with
                | bad => rw [ef] at p; exact p.elim
                | exc c => rw [ef] at p; exact p.elim
                | ok z =>
                  obtain ⟨y, s3⟩ := z
                  rw [ef, noX_ok, bnd_ok] at p
                  intro v G4 H4 g4 S4 rv
                  by_cases hy' : isD y = true
                  · rw [if_pos hy'] at p
                    have hD4 : H4 D = some (.lst acc) := g4.h D _ fD hD3
                    have gD4 : G4 D = none := nG ((g2'.trans g3).trans g4)
                    have gt4 := gt3.trans g4
                    refine ⟨acc, hD4, Nat.lt_of_le_of_lt (Nat.le_trans hi (Nat.le_of_lt hl)) (Nat.lt_of_le_of_lt hlen (by decide)), by omega, G4, s3, acc ++ [v], ds ++ [y], ?_, ?_, upd_same, gD4, (da.mono ((g2'.trans g3).trans g4).g).app (.cons (rv.dg (isD_tok hy')) .nil), by rw [List.length_append]; simp; omega, ?_⟩
                    · exact (a4.step g4 S4).write gD4 hD4 h0D fD hneD
                    · exact gt4.write nD
                    · rw [bnd_assoc] at p
                      simp only [bnd_ok] at p
                      simp only [List.append_assoc, List.singleton_append]
                      exact p
                  · rw [if_neg hy'] at p; exact p.elim
      · have hge : items.length ≤ i := by omega
        obtain ⟨_, st, _⟩ := ok i G H g.g a.sit.sub
        refine .inl ⟨st hge, ?_⟩
        rw [List.drop_eq_nil_of_le hge] at p
        have sg : Sub G (upd G D (.lst acc)) := sub_upd gD
        refine p (.ref D) (upd G D (.lst acc)) H ⟨fun x o h => sg x o (g.g x o h), g.h, g.dom, fun x o h => ?_⟩ ⟨fun x o h => ?_, fun x f => ?_, a.sit.fpH, B.W.keep a.sit.rep sg fun _ _ _ e => e⟩ (.inl (.lst upd_same ?_))
        · by_cases z : x = D
          · subst z; exact .inr nD
          · rw [upd_ne z] at h; exact g.new x o h
        · by_cases z : x = D
          · subst z; rw [upd_same] at h; cases h; exact hD
          · rw [upd_ne z] at h; exact a.sit.sub x o h
        · have z : x ≠ D := fun z => fD (by rw [← z]; exact f)
          rw [upd_ne z]; exact a.sit.fpG x f
        · rw [List.append_nil]; exact da.mono sg
    · rw [if_neg hlen] at p; exact p.elim
theorem de_lc {elt iter : Expr} {ifs : List Expr} {scope : Scope} (own : List (Str × Nat)) {pos : Pos} {fi : Mx B (List PD)} {b : Bd} {sl : List Nat} {ft : Mx B Bool} {fe : Mx B PD} (hN : X.N.Nodup) (hi : DI X B O tg iter fi) (ok : blkC X.N X.env.scope scope own = true)
    (hg : ∀ (s : Shared) (H : Hp) (C : Addr) (cl : List (Str × Addr)) (fp : List Addr), DG (X.blk s H scope (compEnvC scope cl C X.env) fp) B.blk O tg b sl)
    (ht : ∀ (s : Shared) (H : Hp) (C : Addr) (cl : List (Str × Addr)) (fp : List Addr), DTs (X.blk s H scope (compEnvC scope cl C X.env) fp) B.blk O ifs ft)
    (he : ∀ (s : Shared) (H : Hp) (C : Addr) (cl : List (Str × Addr)) (fp : List Addr), DE (X.blk s H scope (compEnvC scope cl C X.env) fp) B.blk O elt fe)
    (hc : X.calm = true := by rfl) (hsl : ∀ i ∈ sl, i ∈ own.map (·.2) := by decide) (hs : ∀ x, foldedSetIterable iter X.env x = pure x := by intro _; rfl) : DE X B O (.ListComp elt [⟨tg, iter, ifs, 0⟩] scope pos) (cComp fi b (own.map (·.2)) ft fe) :=
  PE.imp (pe_lc hc hN hi (blkOk_by ok) hg ht he hs) fun σ H Q h => rd_lc hsl h
theorem ds_setLc (i : Nat) {y : Str} {py spos : Pos} {elt iter : Expr} {ifs : List Expr} {scope : Scope} (own : List (Str × Nat)) {pos : Pos} {fi : Mx B (List PD)} {b : Bd} {sl : List Nat} {ft : Mx B Bool} {fe : Mx B PD} (hN : X.N.Nodup)
    (hsw : swapsWith (.ListComp elt [⟨tg, iter, ifs, 0⟩] scope pos) (some (.Name y py)) spos.line X.env = pure true) (hi : DI X B O tg iter fi) (ok : blkC X.N X.env.scope scope own = true)
    (hg : ∀ (s : Shared) (H : Hp) (C : Addr) (cl : List (Str × Addr)) (fp : List Addr), DG (X.blk s H scope (compEnvC scope cl C X.env) fp) B.blk O tg b sl)
    (ht : ∀ (s : Shared) (H : Hp) (C : Addr) (cl : List (Str × Addr)) (fp : List Addr), DTs (X.blk s H scope (compEnvC scope cl C X.env) fp) B.blk O ifs ft)
    (he : ∀ (s : Shared) (H : Hp) (C : Addr) (cl : List (Str × Addr)) (fp : List Addr), DE (X.blk s H scope (compEnvC scope cl C X.env) fp) B.blk O elt fe)
    (hy : X.N[i]? = some y := by rfl) (hyl : X.env.scope.names.lookup y = some .local := by rfl) (hO : i ∉ O := by decide)
    (hc : X.calm = true := by rfl) (hsl : ∀ i ∈ sl, i ∈ own.map (·.2) := by decide) (hs : ∀ x, foldedSetIterable iter X.env x = pure x := by intro _; rfl) : DS X B O O (.Assign [.Name y py] (.ListComp elt [⟨tg, iter, ifs, 0⟩] scope pos) spos) (sSet i (cComp fi b (own.map (·.2)) ft fe)) :=
  PS.imp (ps_setLc hc hN hy hyl hsw hi (blkOk_by ok) hg ht he hs) fun D σ H h => by
    obtain ⟨G, ρ, s, a, p⟩ := h
    refine rd_lc hsl ?_
    exact rdE.thenS a p fun v G1 H1 d s1 a1 g1 rv p1 => p1 _ G1 H1 ⟨a1.sit, a1.gr, a1.rs.set rv hO⟩
end
end DL

/-! DL8: defs of our own, called; owned lists -/
namespace DL
open PySem PySem.Spec PyProof.Rows L2
/-! ### pure defs -/
def PostP (cls : Nat → Addr) (tk : Nat → V) (G H : Hp) (r : R PD) (Q : VK) (E : XK) : Prop :=
  match r with
  | .ok d => ∀ v G' H', Gr (fun _ => False) G H G' H' → Sub G' H' → Rp tk G' v d → Q v H'
  | .exc c => ∀ G' H', Gr (fun _ => False) G H G' H' → E (.ref (cls c)) none H'
  | .bad => False
def spP (cls : Nat → Addr) (n : Nat) (m : List PD → R PD) : Sp := fun vs H Q E => ∃ tk G ds, Sub G H ∧ RpAll tk G vs ds ∧ ds.length = n ∧ PostP cls tk G H (m ds) Q E
/-- a pure def by its name -/
structure FnP (P : Program) (w : World) (K : PySem.W.Frag) (mg : Str → Option Value) (base : Heap) (cls : Nat → Addr) (k : Nat) (x : Str) (n : Nat) (m : List PD → R PD) : Prop where
  ex : ∃ f fd ps, FnOk P w K mg base (L2.CX P w) k f fd ps (spP cls n m) ∧ mg x = some (.ref f) ∧ PySem.W.keepIn K (.ref f) = true ∧ Binds K fd ps []
theorem FnP.mono {P : Program} {w : World} {K : PySem.W.Frag} {mg : Str → Option Value} {base : Heap} {cls : Nat → Addr} {k j : Nat} {x : Str} {n : Nat} {m : List PD → R PD} (F : FnP P w K mg base cls k x n m) (h : k ≤ j) : FnP P w K mg base cls j x n m := by
  obtain ⟨f, fd, ps, h1, h2⟩ := F.ex
  exact ⟨f, fd, ps, h1.mono h, h2⟩
/-- another function with the same values -/
theorem FnP.congr {P : Program} {w : World} {K : PySem.W.Frag} {mg : Str → Option Value} {base : Heap} {cls : Nat → Addr} {k : Nat} {x : Str} {n : Nat} {m m' : List PD → R PD} (F : FnP P w K mg base cls k x n m) (h : ∀ ds, ds.length = n → m' ds = .bad ∨ m ds = m' ds) : FnP P w K mg base cls k x n m' := by
  obtain ⟨f, fd, ps, h1, h2⟩ := F.ex
  refine ⟨f, fd, ps, h1.imp fun vs H Q E q => ?_, h2⟩
  obtain ⟨tk, G, ds, a, b, c, p⟩ := q
  refine ⟨tk, G, ds, a, b, c, ?_⟩
  rcases h ds c with z | z
  · rw [z] at p; exact p.elim
  · rw [z]; exact p
def cCallF {d : Type} (n : Nat) (m : List PD → R PD) (a : Env → d → R (List PD × d)) : Env → d → R (PD × d) := fun ρ s => bnd (a ρ s) fun ds s1 => if ds.length = n then lft (m ds) s1 else .bad
section
variable {X : Cx} {B : Bs} {O O' : List Nat}
theorem PostP.of {G H : Hp} {r : R PD} {Q : VK} {s : B.W.d} (S : Sit B.W G H s) (p : PostE B G H (lft r s) Q) : PostP B.W.cls B.W.tk G H r Q B.E := by
  cases r with
  | ok d => exact fun v G' H' g sb rp => p v G' H' (g.weak fun _ z => z.elim) (S.pure g sb) rp
  | exc c => exact fun G' H' g => p G' H' (g.weak fun _ z => z.elim)
  | bad => exact p
theorem de_call {k : Nat} {x : Str} {n : Nat} {m : List PD → R PD} {e : Expr} {es : List Expr} {fa : Mx B (List PD)} {p pos : Pos} (F : FnP X.prog X.w X.K X.mg X.base B.W.cls k x n m) (hr : Room k X.A) (hx : Passes (L2.CX X.prog X.w) X B.E) (ha : DA X B O (e :: es) fa) (hg : Gl X x := by rfl)
    (hdb : (x == ("__debug__" : Str)) = false := by decide) (he : starEach (e :: es) X.env = (false, eval e X.env) :: starEach es X.env := by rfl) (hpl : (backTo pos (starEach es X.env)).any (·.1) = false := by rfl) : DE X B O (.Call (.Name x p) (e :: es) [] pos) (cCallF n m fa) := by
  obtain ⟨f, fd, ps, hF, hm, hk, hb⟩ := F.ex
  refine PE.imp (pe_call hF hr hg hm hk hb .nil hx ha hdb he hpl) fun σ H Q h => ?_
  obtain ⟨G, ρ, s, a, p⟩ := h
  refine rdA.then a p fun vs G1 H1 ds s1 a1 g1 rv p1 => ?_
  by_cases hl : ds.length = n
  · rw [if_pos hl] at p1
    rw [List.append_nil]
    exact ⟨B.W.tk, G1, ds, a1.sit.sub, rv, hl, PostP.of a1.sit p1⟩
  · rw [if_neg hl] at p1; exact p1.elim
theorem de_call0 {k : Nat} {x : Str} {m : List PD → R PD} {p pos : Pos} (F : FnP X.prog X.w X.K X.mg X.base B.W.cls k x 0 m) (hr : Room k X.A) (hx : Passes (L2.CX X.prog X.w) X B.E) (hg : Gl X x := by rfl)
    (hdb : (x == ("__debug__" : Str)) = false := by decide) : DE X B O (.Call (.Name x p) [] [] pos) (fun _ s => lft (m []) s) := by
  obtain ⟨f, fd, ps, hF, hm, hk, hb⟩ := F.ex
  refine PE.imp (pe_call0 hF hr hg hm hk hb .nil hx hdb) fun σ H Q h => ?_
  obtain ⟨G, ρ, s, a, p⟩ := h
  exact ⟨B.W.tk, G, [], a.sit.sub, .nil, rfl, PostP.of a.sit p⟩
end
/-- the pure world -/
def Wp (cls : Nat → Addr) (tk : Nat → V) : Wd := { d := Unit, fp := fun _ => False, rep := fun _ _ _ => True, tk := tk, cls := cls, keep := fun _ _ _ => trivial }
def startD (N : List Str) (ds : List PD) : Env := ds.map some ++ List.replicate (N.length - ds.length) none
/-- what a body's outcome is for its caller -/
def outP (r : R (Fl × Unit)) : R PD := match r with
  | .ok (.rt d, _) => .ok d
  | .ok (.nx _, _) => .ok .none
  | .ok _ => .bad
  | .exc c => .exc c
  | .bad => .bad
def mBody (n : Nat) (f : Env → Unit → R (Fl × Unit)) : List PD → R PD := fun ds => outP (f (ds.map some ++ List.replicate n none) ())
theorem RpAll.begin_ {W : Wd} {G H H0 : Hp} {vs : List V} {ds : List PD} (N : List Str) (r : RpAll W.tk G vs ds) : RS W G H H0 [] (L2.start N vs) (startD N ds) := by
  have hl := r.len
  refine ⟨by unfold L2.start startD; rw [List.length_append, List.length_append, List.length_map, List.length_map, List.length_replicate, List.length_replicate, hl], fun i d e _ => ?_, fun i d e m => by simp at m, fun i j p d e m => by simp at m⟩
  unfold startD at e
  unfold L2.start
  by_cases hi : i < ds.length
  · rw [List.getElem?_append_left (by rw [List.length_map]; exact hi), List.getElem?_map] at e
    rw [List.getElem?_append_left (by rw [List.length_map, hl]; exact hi), List.getElem?_map]
    cases q : ds[i]? with
    | none => rw [q] at e; cases e
    | some d' =>
      rw [q] at e
      cases e
      obtain ⟨v, h1, h2⟩ := r.get q
      exact ⟨v, by rw [h1]; rfl, h2⟩
  · rw [List.getElem?_append_right (by rw [List.length_map]; omega), List.getElem?_replicate] at e
    split at e <;> cases e
section
variable {P : Program} {w : World} {K : PySem.W.Frag} {mg : Str → Option Value} {base : Heap} {x qual : Str} {params : Arguments} {body : List Stmt} {scope : Scope} {f : Addr} {fd : FuncData} {cls : Nat → Addr}
/-- A PURE DEF, by its body -/
theorem fn_pure {N ps : List Str} {k n : Nat} {fb : Env → Unit → R (Fl × Unit)} (F : FunD K x qual params body scope [] [] f fd) (S : FnScope N ps scope) (hm : mg x = some (.ref f)) (hn : ps.length = n) (hb : Binds K fd ps [])
    (hbody : ∀ (cdv : Value) (A : Around) (outer : List PySem.Env) (s : Shared) (H : Hp) (E : XK) (tk : Nat → V) (G : Hp), Room k (A.deeper (envOfC qual scope s.heap.objs.size f cdv)) →
      DSs (cxOf (L2.CX P w) P w K mg base N qual scope f cdv A outer s H E) ⟨Wp cls tk, G, H, E⟩ [] [] body fb) : FnP P w K mg base cls (k + 1) x n (mBody (N.length - n) fb) := by
  refine ⟨f, fd, ps, F.ok S (fun vs H Q E h => ?_) (fun cdv A outer s H vs Q E hr h => ?_), hm, F.kp, hb⟩
  · obtain ⟨tk, G, ds, _, r, hl, _⟩ := h
    rw [r.len, hl, hn]
  · obtain ⟨tk, G, ds, sb, r, hl, p⟩ := h
    refine ⟨_, hbody cdv A outer s H E tk G hr, G, startD N ds, (), ⟨⟨sb, fun _ z => z.elim, fun _ z => z.elim, trivial⟩, .refl, r.begin_ N⟩, ?_⟩
    unfold mBody at p
    have e0 : startD N ds = ds.map some ++ List.replicate (N.length - n) none := by unfold startD; rw [hl]
    rw [e0]
    revert p
    generalize fb (ds.map some ++ List.replicate (N.length - n) none) () = r'
    intro p
    cases r' with
    | bad => exact p
    | exc c => exact fun G' H' g => p G' H' g
    | ok y =>
      obtain ⟨fl, u⟩ := y
      cases fl with
      | nx ρ => exact fun σ' G' H' a => p .non G' H' a.gr a.sit.sub (.inl .non)
      | rt d => exact fun v G' H' g st rv => p v G' H' g st.sub rv
      | bk ρ => exact p.elim
      | ct ρ => exact p.elim
end

/-! ### owned lists -/
section
variable {X : Cx} {B : Bs} {O O' : List Nat}
/-- a fresh list that is ours: not in the ghost heap -/
def PostF (B : Bs) (G H : Hp) (r : R (List PD × B.W.d)) (Q : VK) : Prop :=
  match r with
  | .ok (ds, s') => ∀ p vs G' H', Gr B.W.fp G H G' H' → Sit B.W G' H' s' → H p = none → G' p = none → H' p = some (.lst vs) → DgAll G' vs ds → Q (.ref p) H'
  | .exc c => ∀ G' H', Gr B.W.fp G H G' H' → B.E (.ref (B.W.cls c)) none H'
  | .bad => False
theorem PostF.mono {G H G1 H1 : Hp} {r : R (List PD × B.W.d)} {Q : VK} (g : Gr B.W.fp G H G1 H1) (h : PostF B G H r Q) : PostF B G1 H1 r Q := by
  cases r with
  | ok x => exact fun p vs G' H' g' S' n1 n2 e d => h p vs G' H' (g.trans g') S' (g.dom p n1) n2 e d
  | exc c => exact fun G' H' g' => h G' H' (g.trans g')
  | bad => exact h
def rdF (B : Bs) (O : List Nat) (f : Mx B (List PD)) : TE := fun σ H Q => ∃ G ρ s, At B O σ H G ρ s ∧ PostF B G H (f ρ s) Q
abbrev DF (X : Cx) (B : Bs) (O : List Nat) (e : Expr) (f : Mx B (List PD)) : Prop := PE X e (rdF B O f)
def fLst {d : Type} (r : Env → d → R (List PD × d)) : Env → d → R (List PD × d) := fun ρ s => bnd (r ρ s) fun xs s1 => if allD xs && decide (xs.length ≤ sizeLine) then .ok (xs, s1) else .bad
theorem df_lst {es : List Expr} {f : Mx B (List PD)} {pos : Pos} (h : DA X B O es f) : DF X B O (.List es pos) (fLst f) :=
  PE.imp (pe_lst h) fun σ H Q h => by
    obtain ⟨G, ρ, s, a, p⟩ := h
    refine rdA.fst a (fun G H r => PostF B G H r Q) (fun g p => p.mono g) (fun p => p) (fun p => p) p fun xs G1 H1 ds s1 a1 g1 rs p1 => ?_
    by_cases hd : (allD ds && decide (ds.length ≤ sizeLine)) = true
    · rw [if_pos hd] at p1
      rw [Bool.and_eq_true, decide_eq_true_eq] at hd
      refine ⟨by rw [rs.len]; exact hd.2, fun q hq => ?_⟩
      refine p1 q xs G1 _ (Gr.allocH hq) (a1.sit.allocH hq) hq ?_ upd_same (rs.dg hd.1)
      cases z : G1 q with
      | none => rfl
      | some o => rw [a1.sit.sub _ _ z] at hq; cases hq
    · rw [if_neg hd] at p1; exact p1.elim
/-- x = a fresh list, owned from here on -/
def sSetF {d : Type} (i : Nat) (f : Env → d → R (List PD × d)) : Env → d → R (Fl × d) := fun ρ s => bnd (f ρ s) fun xs s1 => .ok (.nx (ρ.set i (some (.list xs))), s1)
theorem RS.setO {W : Wd} {G H H0 : Hp} {σ : St} {ρ : Env} {i : Nat} {p : Addr} {vs : List V} {ds : List PD} (r : RS W G H H0 O σ ρ) (hi : ∀ j, j ∈ O' → j = i ∨ j ∈ O) (hi2 : ∀ j, j ∈ O → j = i ∨ j ∈ O') (hi3 : i ∈ O')
    (h3 : H p = some (.lst vs)) (h4 : DgAll G vs ds) (h5 : G p = none) (h6 : H0 p = none) (h7 : ¬ W.fp p) (hne : ∀ j d, j ∈ O → j ≠ i → ρ[j]? = some (some d) → σ[j]? ≠ some (some (.ref p))) : RS W G H H0 O' (σ.set i (some (.ref p))) (ρ.set i (some (.list ds))) := by
  refine ⟨by rw [List.length_set, List.length_set]; exact r.len, fun j e h n => ?_, fun j e h m => ?_, fun j k q e f m1 m2 h1 h2 h3 h4 => ?_⟩
  · have z : i ≠ j := fun z => n (by rw [← z]; exact hi3)
    rw [List.getElem?_set_ne z] at h ⊢
    refine r.plain j e h fun w => ?_
    rcases hi2 j w with q | q
    · exact z q.symm
    · exact n q
  · by_cases z : i = j
    · subst z
      by_cases hl : i < ρ.length
      · rw [List.getElem?_set_self hl] at h
        cases h
        exact ⟨p, vs, ds, List.getElem?_set_self (by rw [r.len]; exact hl), rfl, h3, h4, h5, h6, h7⟩
      · rw [List.getElem?_eq_none (by rw [List.length_set]; omega)] at h; cases h
    · rw [List.getElem?_set_ne z] at h
      obtain ⟨q, ws, es, q1, q2⟩ := r.own j e h (by
        rcases hi j m with w | w
        · exact absurd w.symm z
        · exact w)
      exact ⟨q, ws, es, by rw [List.getElem?_set_ne z]; exact q1, q2⟩
  · have inO : ∀ {j}, j ∈ O' → i ≠ j → j ∈ O := fun {j} m z => by
      rcases hi j m with w | w
      · exact absurd w.symm z
      · exact w
    by_cases z1 : i = j
    · by_cases z2 : i = k
      · rw [← z1, ← z2]
      · subst z1
        exfalso
        have hl : i < σ.length := by
          cases hq : decide (i < σ.length) with
          | true => exact of_decide_eq_true hq
          | false =>
            have := of_decide_eq_false hq
            rw [List.getElem?_eq_none (by rw [List.length_set]; omega)] at h3; cases h3
        rw [List.getElem?_set_self hl] at h3
        cases h3
        rw [List.getElem?_set_ne z2] at h2 h4
        exact hne k f (inO m2 z2) (Ne.symm z2) h2 h4
    · by_cases z2 : i = k
      · subst z2
        exfalso
        have hl : i < σ.length := by
          cases hq : decide (i < σ.length) with
          | true => exact of_decide_eq_true hq
          | false =>
            have := of_decide_eq_false hq
            rw [List.getElem?_eq_none (by rw [List.length_set]; omega)] at h4; cases h4
        rw [List.getElem?_set_self hl] at h4
        cases h4
        rw [List.getElem?_set_ne z1] at h1 h3
        exact hne j e (inO m1 z1) (Ne.symm z1) h1 h3
      · rw [List.getElem?_set_ne z1] at h1 h3
        rw [List.getElem?_set_ne z2] at h2 h4
        exact r.apart j k q e f (inO m1 z1) (inO m2 z2) h1 h2 h3 h4
theorem ds_setF (i : Nat) {x : Str} {e : Expr} {fe : Mx B (List PD)} {pos pos' : Pos} (hN : X.N.Nodup) (he : DF X B O e fe) (hi1 : ∀ j, j ∈ O' → j = i ∨ j ∈ O := by decide) (hi2 : ∀ j, j ∈ O → j = i ∨ j ∈ O' := by decide) (hi3 : i ∈ O' := by decide) (hi : X.N[i]? = some x := by rfl) (hx : Loc X.env.scope x := by first | exact Or.inl rfl | exact Or.inr rfl)
    (hs : swapsWith e (some (.Name x pos')) pos.line X.env = pure false := by rfl) (hf : X.fn x = true ∨ X.env.scope.names.lookup x = some .local := by first | exact .inl rfl | exact .inr rfl) : DS X B O O' (.Assign [.Name x pos'] e pos) (sSetF i fe) :=
  PS.imp (ps_set hN hi hx he hs hf) fun D σ H h => by
    obtain ⟨G, ρ, s, a, p⟩ := h
    refine ⟨G, ρ, s, a, ?_⟩
    unfold sSetF at p
    cases ef : fe ρ s with
    | bad => rw [ef] at p; exact p
    | exc c => rw [ef] at p; exact fun G' H' g => p G' H' (a.gr.trans g)
    | ok y =>
      obtain ⟨ds, s1⟩ := y
      rw [ef, bnd_ok] at p
      intro q vs G' H' g S n1 n2 hq dq
      have a1 := a.step g S
      refine p _ G' H' ⟨S, a1.gr, a1.rs.setO hi1 hi2 hi3 hq dq n2 (a.gr.dom q n1) (fun z => a.sit.fpH q z n1) fun j d m _ e z => ?_⟩
      obtain ⟨r, ws, es, q1, q2, q3, _⟩ := a.rs.own j d e m
      rw [z] at q1; cases q1
      rw [n1] at q3; cases q3
/-- what an owned slot holds -/
theorem At.own {σ : St} {H G : Hp} {ρ : Env} {s : B.W.d} {i : Nat} {d : PD} (a : At B O σ H G ρ s) (m : i ∈ O) (e : ρ[i]? = some (some d)) : ∃ p vs ds, σ[i]? = some (some (.ref p)) ∧ d = .list ds ∧ H p = some (.lst vs) ∧ DgAll G vs ds ∧ G p = none ∧ B.H0 p = none ∧ ¬ B.W.fp p ∧
    Sub G (upd G p (.lst vs)) ∧ Sub (upd G p (.lst vs)) H ∧ Dg (upd G p (.lst vs)) (.ref p) d := by
  obtain ⟨p, vs, ds, h1, h2, h3, h4, h5, h6, h7⟩ := a.rs.own i d e m
  refine ⟨p, vs, ds, h1, h2, h3, h4, h5, h6, h7, sub_upd h5, fun x o h => ?_, ?_⟩
  · by_cases z : x = p
    · subst z; rw [upd_same] at h; cases h; exact h3
    · rw [upd_ne z] at h; exact a.sit.sub x o h
  · rw [h2]; exact .lst upd_same (h4.mono (sub_upd h5))
/-- an owned slot's list is another one, at its own address; the others' stay -/
theorem RS.setO' {W : Wd} {G H H' H0 : Hp} {σ : St} {ρ : Env} {i : Nat} {p : Addr} {vs : List V} {ds : List PD} (r : RS W G H H0 O σ ρ) (hi : i ∈ O)
    (h3 : H' p = some (.lst vs)) (h4 : DgAll G vs ds) (h5 : G p = none) (h6 : H0 p = none) (h7 : ¬ W.fp p) (hne : ∀ j d, j ∈ O → j ≠ i → ρ[j]? = some (some d) → σ[j]? ≠ some (some (.ref p)))
    (hst : ∀ j d, j ∈ O → j ≠ i → ρ[j]? = some (some d) → ∀ q, σ[j]? = some (some (.ref q)) → ∀ o, H q = some o → H' q = some o) : RS W G H' H0 O (σ.set i (some (.ref p))) (ρ.set i (some (.list ds))) := by
  -- the same slots with i left out, then i set
  have r1 : RS W G H H0 O (σ.set i none) (ρ.set i none) := by
    refine ⟨by rw [List.length_set, List.length_set]; exact r.len, fun j e h n => ?_, fun j e h m => ?_, fun j k q e f m1 m2 h1 h2 h3 h4 => ?_⟩
    · have z : i ≠ j := fun z => n (by rw [← z]; exact hi)
      rw [List.getElem?_set_ne z] at h ⊢
      exact r.plain j e h n
    · by_cases z : i = j
      · subst z
        by_cases hl : i < ρ.length
        · rw [List.getElem?_set_self hl] at h; cases h
        · rw [List.getElem?_eq_none (by rw [List.length_set]; omega)] at h; cases h
      · rw [List.getElem?_set_ne z] at h ⊢
        exact r.own j e h m
    · have z1 : i ≠ j := fun z => by
        subst z
        by_cases hl : i < ρ.length
        · rw [List.getElem?_set_self hl] at h1; cases h1
        · rw [List.getElem?_eq_none (by rw [List.length_set]; omega)] at h1; cases h1
      have z2 : i ≠ k := fun z => by
        subst z
        by_cases hl : i < ρ.length
        · rw [List.getElem?_set_self hl] at h2; cases h2
        · rw [List.getElem?_eq_none (by rw [List.length_set]; omega)] at h2; cases h2
      rw [List.getElem?_set_ne z1] at h1 h3
      rw [List.getElem?_set_ne z2] at h2 h4
      exact r.apart j k q e f m1 m2 h1 h2 h3 h4
  have nj : ∀ {j : Nat} {d : PD}, (ρ.set i none)[j]? = some (some d) → i ≠ j ∧ ρ[j]? = some (some d) := fun {j d} h => by
    have z : i ≠ j := fun z => by
      subst z
      by_cases hl : i < ρ.length
      · rw [List.getElem?_set_self hl] at h; cases h
      · rw [List.getElem?_eq_none (by rw [List.length_set]; omega)] at h; cases h
    rw [List.getElem?_set_ne z] at h
    exact ⟨z, h⟩
  have r2 : RS W G H' H0 O (σ.set i none) (ρ.set i none) := by
    refine ⟨r1.len, r1.plain, fun j e h m => ?_, r1.apart⟩
    obtain ⟨q, ws, es, q1, q2, q3, q4⟩ := r1.own j e h m
    obtain ⟨z, h'⟩ := nj h
    rw [List.getElem?_set_ne z] at q1
    exact ⟨q, ws, es, by rw [List.getElem?_set_ne z]; exact q1, q2, hst j e m (Ne.symm z) h' q q1 _ q3, q4⟩
  have r3 := r2.setO (O' := O) (i := i) (fun j m => .inr m) (fun j m => .inr m) hi h3 h4 h5 h6 h7 fun j d m n e z => by
    obtain ⟨z', e'⟩ := nj e
    rw [List.getElem?_set_ne z'] at z
    exact hne j d m n e' z
  rw [List.set_set, List.set_set] at r3
  exact r3
/-- x.append(e) -/
def sApp {d : Type} (i : Nat) (f : Env → d → R (PD × d)) : Env → d → R (Fl × d) := fun ρ s => match ρ[i]? with
  | some (some (.list ds)) => bnd (f ρ s) fun x s1 => if isD x && decide (ds.length < sizeLine) then .ok (.nx (ρ.set i (some (.list (ds ++ [x])))), s1) else .bad
  | _ => .bad
theorem ds_append (i : Nat) {x : Str} {e : Expr} {fe : Mx B PD} {p apos cpos pos : Pos} (he : DE X B O e fe) (hm : i ∈ O := by decide) (hN : X.N[i]? = some x := by rfl) (hv : Vis X.env.scope x := by first | exact Or.inl rfl | exact Or.inr (Or.inl rfl) | exact Or.inr (Or.inr rfl)) (hd : (x == ("__debug__" : Str)) = false := by decide)
    (hcd : (x == ("__classdict__" : Str)) = false := by decide) (hbase : attributeBase (.Name x p) "append" X.env (eval (.Name x p) X.env) = eval (.Name x p) X.env := by rfl) (hline : (apos.endLine == cpos.line) = true := by rfl) (hst : starEach [e] X.env = (false, eval e X.env) :: starEach [] X.env := by rfl)
    (hfew : ((backTo cpos (starEach [e] X.env)).all (fun x => !x.1) && (backToKw cpos (keywordEach [] X.env)).all (fun x => x.1.isSome) && decide ([e].length + ([] : List Keyword).length + (if ([] : List Keyword).isEmpty then 0 else 1) < 30)) = true := by rfl)
    (hpl : (backTo cpos (starEach [] X.env)).any (·.1) = false := by rfl)
    (hs : swapsWith (.Call (.Attribute (.Name x p) "append" apos) [e] [] cpos) none pos.line X.env = pure false := by rfl) : DS X B O O (.Expr (.Call (.Attribute (.Name x p) "append" apos) [e] [] cpos) pos) (sApp i fe) := by
  refine PS.imp (ps_expr (pe_bm PySem.F.plainAttrs_list PySem.F.slot_list_append PySem.F.type_list_append mt_append (pe_var hN hv hd hcd) (pa_cons he pa_nil hst) hbase hfew hline hst hpl) hs) fun D σ H h => ?_
  obtain ⟨G, ρ, s, a, q⟩ := h
  unfold sApp at q
  split at q
  · rename_i ds e1
    obtain ⟨l, vs, ds', h1, h2, h3, h4, h5, h6, h7, _⟩ := a.own hm e1
    cases h2
    refine ⟨.ref l, h1, .inl ⟨rfl, _, SqL.of h3⟩, ?_⟩
    refine rdE.thenS a q fun w G1 H1 d s1 a1 g1 rv p1 => ?_
    by_cases hc : (isD d && decide (ds.length < sizeLine)) = true
    · rw [if_pos hc] at p1
      rw [Bool.and_eq_true, decide_eq_true_eq] at hc
      have h3' := g1.h l _ h7 h3
      have n5 : G1 l = none := by
        cases z : G1 l with
        | none => rfl
        | some o =>
          rcases g1.new l o z with y | y
          · rw [h5] at y; cases y
          · rw [h3] at y; cases y
      refine ⟨l, vs, w, rfl, rfl, h3', by rw [h4.len]; exact hc.2, ?_⟩
      -- the slot's own list has grown
      have hdd := (h4.mono g1.g).app (.cons (rv.dg (isD_tok hc.1)) .nil)
      have ne : ∀ j d', j ∈ O → j ≠ i → ρ[j]? = some (some d') → σ[j]? ≠ some (some (.ref l)) := fun j d' m n ej z => n (a.rs.apart j i l d' _ m hm ej e1 z h1)
      have hset : σ.set i (some (.ref l)) = σ := by
        apply List.ext_getElem?
        intro k
        by_cases hk : i = k
        · subst hk
          rw [List.getElem?_set_self (List.getElem?_eq_some_iff.mp h1).1, h1]
        · rw [List.getElem?_set_ne hk]
      -- all but this slot at the new heap
      have at2 : At B O (σ.set i (some (.ref l))) (upd H1 l (.lst (vs ++ [w]))) G1 (ρ.set i (some (.list (ds ++ [d])))) s1 := by
        refine ⟨⟨fun y o hy => ?_, a1.sit.fpG, fun y f z => ?_, B.W.keep a1.sit.rep (fun _ _ e => e) fun y o f hy => ?_⟩, ⟨a1.gr.g, fun y o n hy => ?_, fun y hy => ?_, a1.gr.new⟩, ?_⟩
        · rw [upd_ne (ne_of_none hy n5)]; exact a1.sit.sub y o hy
        · have q : y ≠ l := fun q => h7 (by rw [← q]; exact f)
          rw [upd_ne q] at z; exact a1.sit.fpH y f z
        · have q : y ≠ l := fun q => h7 (by rw [← q]; exact f)
          rw [upd_ne q]; exact hy
        · rw [upd_ne (ne_of_none hy h6)]; exact a1.gr.h y o n hy
        · by_cases z : y = l
          · subst z; exact h6
          · rw [upd_ne z] at hy; exact a1.gr.dom y hy
        · refine RS.setO' a1.rs hm upd_same hdd n5 h6 h7 (fun j d' m n ej => ne j d' m n ej) fun j d' m n ej p' hp' o hp => ?_
          have z : p' ≠ l := fun z => ne j d' m n ej (by rw [← z]; exact hp')
          rw [upd_ne z]; exact hp
      rw [hset] at at2
      exact p1 σ G1 _ at2
    · rw [if_neg hc] at p1; exact p1.elim
  · exact q.elim
end
end DL

/-! DL9: owned lists read, methods of lists, draws -/
namespace DL
open PySem PySem.Spec PyProof.Rows L2
section
variable {X : Cx} {B : Bs} {O O' : List Nat}
theorem cVar_some {d : Type} {ρ : Env} {i : Nat} {x : PD} {s : d} (e : ρ[i]? = some (some x)) : cVar i ρ s = .ok (x, s) := by
  unfold cVar; rw [e]
theorem cVar_none {d : Type} {ρ : Env} {i : Nat} {s : d} (e : ∀ x, ρ[i]? ≠ some (some x)) : cVar i ρ s = .bad := by
  unfold cVar
  split
  · rename_i x h; exact absurd h (e x)
  · rfl
/-- an owned slot's value, or nothing -/
theorem At.ownV {σ : St} {H G : Hp} {ρ : Env} {s : B.W.d} (i : Nat) (a : At B O σ H G ρ s) (m : i ∈ O) : (∀ x, ρ[i]? ≠ some (some x)) ∨ ∃ p vs ds, ρ[i]? = some (some (.list ds)) ∧ σ[i]? = some (some (.ref p)) ∧ H p = some (.lst vs) ∧ DgAll G vs ds ∧ G p = none ∧ B.H0 p = none ∧ ¬ B.W.fp p := by
  cases e : ρ[i]? with
  | none => exact .inl fun x h => by cases h
  | some y =>
    cases y with
    | none => exact .inl fun x h => by cases h
    | some d =>
      obtain ⟨p, vs, ds, h1, h2, h3, h4, h5, h6, h7, _⟩ := a.own m e
      subst h2
      exact .inr ⟨p, vs, ds, rfl, h1, h3, h4, h5, h6, h7⟩
theorem de_ixO (i : Nat) {x : Str} {b : Expr} {fb : Mx B PD} {p pos : Pos} (hb : DE X B O b fb) (hm : i ∈ O := by decide) (hN : X.N[i]? = some x := by rfl) (hv : Vis X.env.scope x := by first | exact Or.inl rfl | exact Or.inr (Or.inl rfl) | exact Or.inr (Or.inr rfl)) (hd : (x == ("__debug__" : Str)) = false := by decide)
    (hcd : (x == ("__classdict__" : Str)) = false := by decide) (hs : PlainIx b := by intro _ _; rfl) : DE X B O (.Subscript (.Name x p) b pos) (cOp pIx (cVar i) fb) :=
  PE.imp (pe_ix ix_list (pe_var hN hv hd hcd) hb hs) fun σ H Q h => by
    obtain ⟨G, ρ, s, a, q⟩ := h
    unfold cOp at q
    rcases a.ownV i hm with z | ⟨l, vs, ds, e1, h1, h3, h4, h5, h6, h7⟩
    · rw [cVar_none z] at q; exact q.elim
    · rw [cVar_some e1, bnd_ok] at q
      refine ⟨.ref l, h1, ?_⟩
      refine rdE.then a q fun y G1 H1 d s1 a1 g1 ry p1 => ?_
      cases d with
      | int j =>
        have p1 : PostE B G1 H1 (lft (isOk (pIx (.list ds) (.int j))) s1) Q := p1
        unfold pIx at p1
        dsimp only at p1
        cases e2 : L2.atI ds j with
        | none => rw [e2] at p1; exact p1.elim
        | some d' =>
          rw [e2] at p1
          obtain ⟨v, f1, f2⟩ := (h4.mono g1.g).atI e2
          exact ⟨l, vs, j, v, rfl, (ry.dg (isD_tok rfl)).of_int, SqL.of (g1.h l _ h7 h3), f1, p1.done a1.sit (.inl f2)⟩
      | none => exact p1.elim
      | bool _ => exact p1.elim
      | str _ => exact p1.elim
      | list _ => exact p1.elim
      | tuple _ => exact p1.elim
      | dict _ => exact p1.elim
theorem de_lenO (i : Nat) {x : Str} {p p2 pos : Pos} (hm0 : X.mg "len" = none) (hm : i ∈ O := by decide) (hN : X.N[i]? = some x := by rfl) (hv : Vis X.env.scope x := by first | exact Or.inl rfl | exact Or.inr (Or.inl rfl) | exact Or.inr (Or.inr rfl)) (hd : (x == ("__debug__" : Str)) = false := by decide)
    (hcd : (x == ("__classdict__" : Str)) = false := by decide) (hg : Gl X "len" := by rfl) (he : starEach [.Name x p2] X.env = (false, eval (.Name x p2) X.env) :: starEach [] X.env := by rfl) (hpl : (backTo pos (starEach [] X.env)).any (·.1) = false := by rfl) : DE X B O (.Call (.Name "len" p) [.Name x p2] [] pos) (cCall pLen (aCons (cVar i) aNil)) :=
  PE.imp (pe_callB call_len_seq hg hm0 PySem.boot_len (pa_cons (pe_var hN hv hd hcd) pa_nil he) (by decide) (by decide) he hpl) fun σ H Q h => by
    obtain ⟨G, ρ, s, a, q⟩ := h
    unfold cCall aCons at q
    rcases a.ownV i hm with z | ⟨l, vs, ds, e1, h1, h3, h4, h5, h6, h7⟩
    · rw [cVar_none z] at q; exact q.elim
    · rw [cVar_some e1] at q
      refine ⟨.ref l, h1, l, vs, rfl, .inl (SqL.of h3), ?_⟩
      rw [h4.len]
      exact PostE.done (d := .int ds.length) a.sit (.inl (.int _)) q
theorem DgAll.nil_of {G : Hp} : DgAll G [] [] := .nil
/-- x[lo:hi] of an owned list -/
theorem rd_sliceO {i : Nat} {fl fh : Mx B (Option Int)} {σ : St} {H : Hp} {Q : VK} (hm : i ∈ O) (h : rdE B O (cSl pSl (cVar i) fl fh) σ H Q) : tSl (rSlL X.K) (tVar i) (rdPt B O fl) (rdPt B O fh) σ H Q := by
  obtain ⟨G, ρ, s, a, q⟩ := h
  unfold cSl at q
  rcases a.ownV i hm with z | ⟨l, vs, ds, e1, h1, h3, h4, h5, h6, h7⟩
  · rw [cVar_none z] at q; exact q.elim
  · rw [cVar_some e1, bnd_ok] at q
    refine ⟨.ref l, h1, ?_⟩
    refine rdPt.then a q fun lo G2 H2 s2 a2 g2 p2 => ?_
    refine rdPt.then a2 p2 fun hi G3 H3 s3 a3 g3 p3 => ?_
    have p3 : PostE B G3 H3 (.ok (.list (cutD ds lo hi), s3)) Q := p3
    exact ⟨l, vs, rfl, SqL.of (g3.h l _ h7 (g2.h l _ h7 h3)), fun q hq => p3.lst a3.sit (((h4.mono g2.g).mono g3.g).cut _ _) hq⟩
theorem de_sliceO (i : Nat) {x : Str} {lo hi : Option Expr} {fl fh : Mx B (Option Int)} {p p2 pos : Pos} (hl : DO X B O lo fl) (hh : DO X B O hi fh) (hm : i ∈ O := by decide) (hN : X.N[i]? = some x := by rfl) (hv : Vis X.env.scope x := by first | exact Or.inl rfl | exact Or.inr (Or.inl rfl) | exact Or.inr (Or.inr rfl)) (hd : (x == ("__debug__" : Str)) = false := by decide)
    (hcd : (x == ("__classdict__" : Str)) = false := by decide) : DE X B O (.Subscript (.Name x p) (.Slice lo hi none p2) pos) (cSl pSl (cVar i) fl fh) :=
  PE.imp (pe_slice sl_list (pe_var hN hv hd hcd) hl hh) fun σ H Q h => rd_sliceO hm h
/-- .. fresh, ours -/
def fSl {d : Type} (i : Nat) (l h : Env → d → R (Option Int × d)) : Env → d → R (List PD × d) := fun ρ s => match ρ[i]? with
  | some (some (.list ds)) => bnd (l ρ s) fun lo s2 => bnd (h ρ s2) fun hi s3 => .ok (cutD ds lo hi, s3)
  | _ => .bad
theorem rdPt.thenF {f : Mx B (Option Int)} {σ : St} {H : Hp} {Q : Option Int → Hp → Prop} {Q' : VK} {G : Hp} {ρ : Env} {s : B.W.d} {k : Option Int → B.W.d → R (List PD × B.W.d)}
    (a : At B O σ H G ρ s) (p : PostF B G H (bnd (f ρ s) k) Q') (h : ∀ x G1 H1 s1, At B O σ H1 G1 ρ s1 → Gr B.W.fp G H G1 H1 → PostF B G1 H1 (k x s1) Q' → Q x H1) : rdPt B O f σ H Q := by
  refine ⟨G, ρ, s, a, ?_⟩
  cases e : f ρ s with
  | ok x =>
    obtain ⟨d, s1⟩ := x
    rw [e] at p
    exact fun G1 H1 g S => h d G1 H1 s1 (a.step g S) g (PostF.mono g p)
  | exc c => rw [e] at p; exact p
  | bad => rw [e] at p; exact p
theorem PostF.new {G H : Hp} {vs : List V} {ds : List PD} {s : B.W.d} {Q : VK} {p : Addr} (S : Sit B.W G H s) (r : DgAll G vs ds) (q : PostF B G H (.ok (ds, s)) Q) (hp : H p = none) : Q (.ref p) (upd H p (.lst vs)) := by
  refine q p vs G _ (Gr.allocH hp) (S.allocH hp) hp ?_ upd_same r
  cases z : G p with
  | none => rfl
  | some o => rw [S.sub _ _ z] at hp; cases hp
theorem df_sliceO (i : Nat) {x : Str} {lo hi : Option Expr} {fl fh : Mx B (Option Int)} {p p2 pos : Pos} (hl : DO X B O lo fl) (hh : DO X B O hi fh) (hm : i ∈ O := by decide) (hN : X.N[i]? = some x := by rfl) (hv : Vis X.env.scope x := by first | exact Or.inl rfl | exact Or.inr (Or.inl rfl) | exact Or.inr (Or.inr rfl)) (hd : (x == ("__debug__" : Str)) = false := by decide)
    (hcd : (x == ("__classdict__" : Str)) = false := by decide) : DF X B O (.Subscript (.Name x p) (.Slice lo hi none p2) pos) (fSl i fl fh) :=
  PE.imp (pe_slice sl_list (pe_var hN hv hd hcd) hl hh) fun σ H Q h => by
    obtain ⟨G, ρ, s, a, q⟩ := h
    unfold fSl at q
    rcases a.ownV i hm with z | ⟨l, vs, ds, e1, h1, h3, h4, h5, h6, h7⟩
    · split at q
      · rename_i ds e; exact absurd e (z _)
      · exact q.elim
    · rw [e1] at q
      refine ⟨.ref l, h1, ?_⟩
      refine rdPt.thenF a q fun lo G2 H2 s2 a2 g2 p2 => ?_
      refine rdPt.thenF a2 p2 fun hi G3 H3 s3 a3 g3 p3 => ?_
      exact ⟨l, vs, rfl, SqL.of (g3.h l _ h7 (g2.h l _ h7 h3)), fun q hq => p3.new a3.sit (((h4.mono g2.g).mono g3.g).cut _ _) hq⟩
/-- a + b of lists, fresh, ours -/
def fCat {d : Type} (a b : Env → d → R (PD × d)) : Env → d → R (List PD × d) := fun ρ s => bnd (a ρ s) fun x s1 => bnd (b ρ s1) fun y s2 => match x, y with
  | .list xs, .list ys => if xs.length + ys.length ≤ sizeLine then .ok (xs ++ ys, s2) else .bad
  | _, _ => .bad
theorem df_cat {a b : Expr} {fa fb : Mx B PD} {pos : Pos} (ha : DE X B O a fa) (hb : DE X B O b fb) : DF X B O (.BinOp a .Add b pos) (fCat fa fb) :=
  PE.imp (pe_op op_cat ha hb) fun σ H Q h => by
    obtain ⟨G, ρ, s, a, q⟩ := h
    refine rdE.fst a (fun G H r => PostF B G H r Q) (fun g p => p.mono g) (fun p => p) (fun p => p) q fun x G1 H1 dx s1 a1 g1 rx p1 => ?_
    refine rdE.fst a1 (fun G H r => PostF B G H r Q) (fun g p => p.mono g) (fun p => p) (fun p => p) p1 fun y G2 H2 dy s2 a2 g2 ry p2 => ?_
    split at p2
    · rename_i xs ys
      split at p2
      · rename_i hl
        obtain ⟨l, vs, rfl, gl, dl⟩ := ((rx.mono g2.g).dg (isD_tok rfl)).of_lst
        obtain ⟨m, ws, rfl, gm, dm⟩ := (ry.dg (isD_tok rfl)).of_lst
        exact ⟨l, m, vs, ws, rfl, rfl, a2.sit.sub _ _ gl, a2.sit.sub _ _ gm, by rw [dl.len, dm.len]; exact hl, fun q hq => p2.new a2.sit (dl.app dm) hq⟩
      · exact p2.elim
    · exact p2.elim
/-- e in x, e not in x, x owned: a bool comes back -/
theorem rd_opO {f : PD → PD → R PD} {r : R2} {i : Nat} {fe : Mx B PD} {σ : St} {H : Hp} {Q : VK} (hm : i ∈ O) (hb : ∀ d e r, f d e = .ok r → ∃ b, r = .bool b)
    (hr : ∀ (x : V) (l : Addr) (G H : Hp) (vs : List V) (ds : List PD) (d : PD) (b : Bool), Sub G H → Dg G x d → G l = some (.lst vs) → DgAll G vs ds → f d (.list ds) = .ok (.bool b) → ∀ Q : VK, Q (.bl b) H → r x (.ref l) H Q) (h : rdE B O (cOp f fe (cVar i)) σ H Q) : tOp r (rdE B O fe) (tVar i) σ H Q := by
  obtain ⟨G, ρ, s, a, q⟩ := h
  refine rdE.then a q fun x G1 H1 dx s1 a1 g1 rx p1 => ?_
  rcases a1.ownV i hm with z | ⟨l, vs, ds, e1, h1, h3, h4, h5, h6, h7⟩
  · rw [cVar_none z] at p1; exact p1.elim
  · rw [cVar_some e1, bnd_ok] at p1
    refine ⟨.ref l, h1, ?_⟩
    by_cases hd : isD dx = true
    · have p1 : PostE B G1 H1 (if isD dx && isD (.list ds) then lft (isOk (f dx (.list ds))) s1 else .bad) Q := p1
      rw [if_pos (by rw [hd]; rfl)] at p1
      cases ef : f dx (.list ds) with
      | bad => rw [ef] at p1; exact p1.elim
      | exc c => rw [ef] at p1; exact p1.elim
      | ok v =>
        obtain ⟨b, rfl⟩ := hb _ _ _ ef
        rw [ef] at p1
        have sg : Sub G1 (upd G1 l (.lst vs)) := sub_upd h5
        refine hr x l (upd G1 l (.lst vs)) H1 vs ds dx b (fun y o hy => ?_) ((rx.dg (isD_tok hd)).mono sg) upd_same (h4.mono sg) ef Q (PostE.done (d := .bool b) a1.sit (.inl (.bl b)) p1)
        by_cases z : y = l
        · subst z; rw [upd_same] at hy; cases hy; exact h3
        · rw [upd_ne z] at hy; exact a1.sit.sub y o hy
    · have p1 : PostE B G1 H1 (if isD dx && isD (.list ds) then lft (isOk (f dx (.list ds))) s1 else .bad) Q := p1
      rw [if_neg (by rw [Bool.and_eq_true]; exact fun z => hd z.1)] at p1
      exact p1.elim
theorem pNotIn_b (d e r : PD) (h : pNotIn d e = .ok r) : ∃ b, r = .bool b := by
  unfold pNotIn at h
  split at h
  · split at h
    · cases h; exact ⟨_, rfl⟩
    · cases h
  · cases h
theorem dt_notInO (i : Nat) {x : Str} {e : Expr} {fe : Mx B PD} {p pos : Pos} (hu : X.A.units + 65 < cLine) (he : DE X B O e fe) (hm : i ∈ O := by decide) (hN : X.N[i]? = some x := by rfl) (hv : Vis X.env.scope x := by first | exact Or.inl rfl | exact Or.inr (Or.inl rfl) | exact Or.inr (Or.inr rfl)) (hd : (x == ("__debug__" : Str)) = false := by decide)
    (hcd : (x == ("__classdict__" : Str)) = false := by decide) (hmk : behindInMarks .NotIn (.Name x p) = false := by rfl) : DT X B O (.Compare e [.NotIn] [.Name x p] pos) (cTest (cOp pNotIn fe (cVar i))) :=
  PT.imp (pt_cmpR (op_notInD hu) he (pe_var hN hv hd hcd) hmk) fun σ H Q h => by
    have h2 := rd_test h
    refine rd_opO hm pNotIn_b (fun x l G H vs ds d b sb rx gl dl ef Q q => ?_) h2
    unfold pNotIn at ef
    dsimp only at ef
    split at ef
    · rename_i hs
      rw [Bool.and_eq_true] at hs
      cases ef
      exact ⟨d, ds, rx.dp sb, (Dg.lst gl dl).dp sb, hs.1, hs.2, q⟩
    · cases ef
/-- x += list, x owned -/
def sAugL {d : Type} (i : Nat) (f : Env → d → R (PD × d)) : Env → d → R (Fl × d) := fun ρ s => match ρ[i]? with
  | some (some (.list ds)) => bnd (f ρ s) fun x s1 => match x with
    | .list es => if ds.length + es.length ≤ sizeLine then .ok (.nx (ρ.set i (some (.list (ds ++ es)))), s1) else .bad
    | _ => .bad
  | _ => .bad
theorem ds_augL (i : Nat) {x : Str} {e : Expr} {fe : Mx B PD} {pos pos' : Pos} (hN : X.N.Nodup) (he : DE X B O e fe) (hm : i ∈ O := by decide) (hi : X.N[i]? = some x := by rfl) (hx : Loc X.env.scope x := by first | exact Or.inl rfl | exact Or.inr rfl)
    (hf : X.fn x = true ∨ X.env.scope.names.lookup x = some .local := by first | exact .inl rfl | exact .inr rfl) : DS X B O O (.AugAssign (.Name x pos') .Add e pos) (sAugL i fe) :=
  PS.imp (ps_aug hN hi hx he (ti := rExt2) iop_ext hf) fun D σ H h => by
    obtain ⟨G, ρ, s, a, q⟩ := h
    unfold sAugL at q
    rcases a.ownV i hm with z | ⟨l, vs, ds, e1, h1, h3, h4, h5, h6, h7⟩
    · split at q
      · rename_i ds e; exact absurd e (z _)
      · exact q.elim
    · rw [e1] at q
      refine ⟨.ref l, h1, ?_⟩
      refine rdE.thenS a q fun w G1 H1 d s1 a1 g1 rv p1 => ?_
      cases d with
      | list es =>
        dsimp only at p1
        by_cases hc : ds.length + es.length ≤ sizeLine
        · rw [if_pos hc] at p1
          obtain ⟨m, us, rfl, gm, dm⟩ := (rv.dg (isD_tok rfl)).of_lst
          have h3' := g1.h l _ h7 h3
          have n5 : G1 l = none := by
            cases z : G1 l with
            | none => rfl
            | some o =>
              rcases g1.new l o z with y | y
              · rw [h5] at y; cases y
              · rw [h3] at y; cases y
          refine ⟨l, m, vs, us, rfl, rfl, h3', a1.sit.sub _ _ gm, by rw [h4.len, dm.len]; exact hc, ?_⟩
          have hdd := (h4.mono g1.g).app dm
          have ne : ∀ j d', j ∈ O → j ≠ i → ρ[j]? = some (some d') → σ[j]? ≠ some (some (.ref l)) := fun j d' m n ej z => n (a.rs.apart j i l d' _ m hm ej e1 z h1)
          refine p1 _ G1 _ ⟨⟨fun y o hy => ?_, a1.sit.fpG, fun y f z => ?_, B.W.keep a1.sit.rep (fun _ _ e => e) fun y o f hy => ?_⟩, ⟨a1.gr.g, fun y o n hy => ?_, fun y hy => ?_, a1.gr.new⟩, ?_⟩
          · rw [upd_ne (ne_of_none hy n5)]; exact a1.sit.sub y o hy
          · have q : y ≠ l := fun q => h7 (by rw [← q]; exact f)
            rw [upd_ne q] at z; exact a1.sit.fpH y f z
          · have q : y ≠ l := fun q => h7 (by rw [← q]; exact f)
            rw [upd_ne q]; exact hy
          · rw [upd_ne (ne_of_none hy h6)]; exact a1.gr.h y o n hy
          · by_cases z : y = l
            · subst z; exact h6
            · rw [upd_ne z] at hy; exact a1.gr.dom y hy
          · refine RS.setO' a1.rs hm upd_same hdd n5 h6 h7 (fun j d' m n ej => ne j d' m n ej) fun j d' m n ej p' hp' o hp => ?_
            have z : p' ≠ l := fun z => ne j d' m n ej (by rw [← z]; exact hp')
            rw [upd_ne z]; exact hp
        · rw [if_neg hc] at p1; exact p1.elim
      | _ => exact p1.elim

/-! ### xs.count(y) -/
def eqb (k : Bool) (v : Value) : Bool := match v with
  | .bool n => n == k
  | _ => false
theorem mt_bcount : MtR X "list.count" (fun x xs H Q => ∃ (p : Addr) (ns : List Bool) (k : Bool), x = .ref p ∧ xs = [.bl k] ∧ SqL X.K H p (ns.map V.bl) ∧ Q (.int (ns.count k : Nat)) H) := by
  intro pins s σ H x xs v us Q I rx rxs h
  obtain ⟨p, ns, k, rfl, rfl, hs, q⟩ := h
  cases rx
  obtain ⟨u, rfl, ru⟩ := rxs.one
  cases ru
  obtain ⟨its, rv, ⟨⟨cls, dd, data, sl⟩, n, ho, hc, hdn, hd⟩, hlen⟩ := I.list hs
  simp only at hc hd
  subst hc hd
  have hb : ∀ {us : List Value} {ns : List Bool}, Vals (ns.map V.bl) us → us = ns.map Value.bool := by
    intro us ns
    induction ns generalizing us with
    | nil => intro h; cases h; rfl
    | cons b bs ih =>
      intro h
      cases h with
      | cons r t => rw [show _ = Value.bool b from r, ih t]; rfl
  have hi := hb rv
  refine call_meets PySem.F.slot_list_count ⟨_, ho, rfl⟩ PySem.F.entry_list_count (PySem.F.args_list_count_2 _ _)
    (SeqAt.list_countAt p its.toArray n dd sl (.bool k) (eqb k)) ⟨ho, fun y hy => ?_, ?_⟩
  · rw [hi] at hy
    simp only [List.mem_toArray, List.mem_map] at hy
    obtain ⟨b, _, rfl⟩ := hy
    exact SeqAt.EqAt.bool_bool b k
  · have ec : its.toArray.toList.countP (eqb k) = ns.count k := by
      rw [hi]
      show (ns.map Value.bool).countP (eqb k) = ns.count k
      rw [List.countP_map, List.count]
      rfl
    refine ⟨.int (ns.count k : Nat), H, I.tok _, ⟨s.toks, ?_⟩, q⟩
    show Value.int ((its.toArray.toList.countP (eqb k) : Nat) : Int) s.toks = Value.int ((ns.count k : Nat) : Int) s.toks
    rw [ec]
/-- a method of a list, one argument, nothing changed -/
def rdM (f : PD → PD → R PD) : V → List V → Hp → VK → Prop := fun x xs H Q => ∃ y, xs = [y] ∧ rdO f x y H Q
theorem MtR.by {id : String} {r' : V → List V → Hp → VK → Prop} (h : ∀ x vs H Q, r' x vs H Q → ∃ r, MtR X id r ∧ r x vs H Q) : MtR X id r' := fun pins s σ H x xs v us Q I rx rxs q => by
  obtain ⟨r, hr, q'⟩ := h x xs H Q q
  exact hr pins s σ H x xs v us Q I rx rxs q'
def pCount : PD → PD → R PD
  | .list xs, .bool k => match toBools xs with
    | some bs => .ok (.int (bs.count k : Nat))
    | none => .bad
  | .list xs, .int k => match toInts xs with
    | some bs => .ok (.int (bs.count k : Nat))
    | none => .bad
  | _, _ => .bad
theorem dm_count : MtR X "list.count" (rdM pCount) := by
  refine MtR.by fun x vs H Q h => ?_
  obtain ⟨y, rfl, G, d, e, sb, rx, ry, p⟩ := h
  unfold pCount at p
  split at p
  · obtain ⟨a, us, rfl, ga, da⟩ := rx.of_lst
    split at p
    · rename_i bs e
      rw [toBools_eq e] at da
      have e2 := da.bools
      subst e2
      exact ⟨_, mt_bcount, _, bs, _, rfl, by rw [ry.of_bl], SqL.of (sb _ _ ga), p.val sb (.int _)⟩
    · exact p.elim
  · obtain ⟨a, us, rfl, ga, da⟩ := rx.of_lst
    split at p
    · rename_i bs e
      rw [toInts_eq e] at da
      have e2 := da.ints
      subst e2
      exact ⟨_, mt_lcount, _, bs, _, rfl, by rw [ry.of_int], SqL.of (sb _ _ ga), p.val sb (.int _)⟩
    · exact p.elim
  · exact p.elim
/-- o.m(e) of a list -/
def isL : PD → Bool
  | .list _ => true
  | _ => false
def cMeth {d : Type} (f : PD → PD → R PD) (a b : Env → d → R (PD × d)) : Env → d → R (PD × d) := fun ρ s => bnd (a ρ s) fun x s1 => if isL x then bnd (b ρ s1) fun y s2 => if isD y then lft (isOk (f x y)) s2 else .bad else .bad
theorem de_meth {name : Str} {id : String} {f : PD → PD → R PD} {o e : Expr} {fo fe : Mx B PD} {apos cpos : Pos} (slot : Slot "list" name id) (hty : typeOf (.builtin id) = pure (.type "method_descriptor")) (hmt : MtR X id (rdM f)) (ho : DE X B O o fo) (he : DE X B O e fe)
    (hbase : attributeBase o name X.env (eval o X.env) = eval o X.env := by rfl) (hline : (apos.endLine == cpos.line) = true := by rfl) (hst : starEach [e] X.env = (false, eval e X.env) :: starEach [] X.env := by rfl)
    (hfew : ((backTo cpos (starEach [e] X.env)).all (fun x => !x.1) && (backToKw cpos (keywordEach [] X.env)).all (fun x => x.1.isSome) && decide ([e].length + ([] : List Keyword).length + (if ([] : List Keyword).isEmpty then 0 else 1) < 30)) = true := by rfl)
    (hpl : (backTo cpos (starEach [] X.env)).any (·.1) = false := by rfl) : DE X B O (.Call (.Attribute o name apos) [e] [] cpos) (cMeth f fo fe) :=
  PE.imp (pe_bm PySem.F.plainAttrs_list slot hty hmt ho (pa_cons he pa_nil hst) hbase hfew hline hst hpl) fun σ H Q h => by
    obtain ⟨G, ρ, s, a, q⟩ := h
    refine rdE.then a q fun x G1 H1 dx s1 a1 g1 rx p1 => ?_
    cases dx with
    | list ds =>
      obtain ⟨l, vs, rfl, gl, dl⟩ := (rx.dg (isD_tok rfl)).of_lst
      refine ⟨.inl ⟨rfl, vs, SqL.of (a1.sit.sub _ _ gl)⟩, ?_⟩
      have p1 : PostE B G1 H1 (bnd (fe ρ s1) fun y s2 => if isD y then lft (isOk (f (.list ds) y)) s2 else .bad) Q := p1
      refine rdE.then a1 p1 fun y G2 H2 dy s2 a2 g2 ry p2 => ?_
      by_cases hd : isD dy = true
      · rw [if_pos hd] at p2
        exact ⟨y, rfl, G2, .list ds, dy, a2.sit.sub, (rx.mono g2.g).dg (isD_tok rfl), ry.dg (isD_tok hd), (PostD.of a2.sit p2 (isOk_nx _)).isOk⟩
      · rw [if_neg hd] at p2; exact p2.elim
    | _ => exact p1.elim
end

theorem room65 {k : Nat} {A : Around} (r : Room k A) : A.units + 65 < cLine := by have := r.un; omega
/-- fuel for while loops -/
def fuInt (i : Nat) (ρ : Env) : Nat := match ρ[i]? with
  | some (some (.int n)) => n.natAbs + 2
  | _ => 0
def fuLen (i : Nat) (ρ : Env) : Nat := match ρ[i]? with
  | some (some (.list xs)) => xs.length + 2
  | _ => 0
/-! ### draws: [numbers, counter] -/
abbrev Dr := List Int × Int
def Wdr (cls : Nat → Addr) (da db : Addr) : Wd where
  d := Dr
  fp := fun a => a = da ∨ a = db
  rep := fun s _ H => da ≠ db ∧ H da = some (.lst [.ref db, .int s.2]) ∧ H db = some (.lst (s.1.map V.int))
  tk := fun _ => .ref da
  cls := cls
  keep := fun h _ k => ⟨h.1, k _ _ (.inl rfl) h.2.1, k _ _ (.inr rfl) h.2.2⟩
/-- the promise of a def that draws -/
def spD (cls : Nat → Addr) (n : Nat) (m : List PD → Dr → R (PD × Dr)) : Sp := fun vs H Q _ => ∃ (da db : Addr) (G : Hp) (ds : List PD) (s : Dr), Sit (Wdr cls da db) G H s ∧ RpAll (Wdr cls da db).tk G vs ds ∧ ds.length = n ∧ PostE ⟨Wdr cls da db, G, H, E0⟩ G H (m ds s) Q
structure FnD (P : Program) (w : World) (K : PySem.W.Frag) (mg : Str → Option Value) (base : Heap) (cls : Nat → Addr) (k : Nat) (x : Str) (n : Nat) (m : List PD → Dr → R (PD × Dr)) : Prop where
  ex : ∃ f fd ps, FnOk P w K mg base (L2.CX P w) k f fd ps (spD cls n m) ∧ mg x = some (.ref f) ∧ PySem.W.keepIn K (.ref f) = true ∧ Binds K fd ps []
theorem FnD.mono {P : Program} {w : World} {K : PySem.W.Frag} {mg : Str → Option Value} {base : Heap} {cls : Nat → Addr} {k j : Nat} {x : Str} {n : Nat} {m : List PD → Dr → R (PD × Dr)} (F : FnD P w K mg base cls k x n m) (h : k ≤ j) : FnD P w K mg base cls j x n m := by
  obtain ⟨f, fd, ps, h1, h2⟩ := F.ex
  exact ⟨f, fd, ps, h1.mono h, h2⟩
theorem FnD.congr {P : Program} {w : World} {K : PySem.W.Frag} {mg : Str → Option Value} {base : Heap} {cls : Nat → Addr} {k : Nat} {x : Str} {n : Nat} {m m' : List PD → Dr → R (PD × Dr)} (F : FnD P w K mg base cls k x n m) (h : ∀ ds s, ds.length = n → m' ds s = .bad ∨ m ds s = m' ds s) : FnD P w K mg base cls k x n m' := by
  obtain ⟨f, fd, ps, h1, h2⟩ := F.ex
  refine ⟨f, fd, ps, h1.imp fun vs H Q E q => ?_, h2⟩
  obtain ⟨da, db, G, ds, s, a, b, c, p⟩ := q
  refine ⟨da, db, G, ds, s, a, b, c, ?_⟩
  rcases h ds s c with z | z
  · rw [z] at p; exact p.elim
  · rw [z]; exact p
def noX' {a : Type} (r : R a) : R a := match r with
  | .ok x => .ok x
  | _ => .bad
def cCallD (n : Nat) (m : List PD → Dr → R (PD × Dr)) (a : Env → Dr → R (List PD × Dr)) : Env → Dr → R (PD × Dr) := fun ρ s => bnd (a ρ s) fun ds s1 => if ds.length = n then noX' (m ds s1) else .bad
section
variable {X : Cx} {O O' : List Nat} {cls : Nat → Addr} {da db : Addr} {G0 H0 : Hp} {E : XK}
theorem de_callD {k : Nat} {x : Str} {n : Nat} {m : List PD → Dr → R (PD × Dr)} {e : Expr} {es : List Expr} {fa : Env → Dr → R (List PD × Dr)} {p pos : Pos} (F : FnD X.prog X.w X.K X.mg X.base cls k x n m) (hr : Room k X.A) (ha : DA X ⟨Wdr cls da db, G0, H0, E⟩ O (e :: es) fa) (hg : Gl X x := by rfl)
    (hdb : (x == ("__debug__" : Str)) = false := by decide) (he : starEach (e :: es) X.env = (false, eval e X.env) :: starEach es X.env := by rfl) (hpl : (backTo pos (starEach es X.env)).any (·.1) = false := by rfl) : DE X ⟨Wdr cls da db, G0, H0, E⟩ O (.Call (.Name x p) (e :: es) [] pos) (cCallD n m fa) := by
  obtain ⟨f, fd, ps, hF, hm, hk, hb⟩ := F.ex
  refine PE.imp (pe_call hF hr hg hm hk hb .nil passL ha hdb he hpl) fun σ H Q h => ?_
  obtain ⟨G, ρ, s, a, p⟩ := h
  refine rdA.then a p fun vs G1 H1 ds s1 a1 g1 rv p1 => ?_
  by_cases hl : ds.length = n
  · rw [if_pos hl] at p1
    rw [List.append_nil]
    refine ⟨da, db, G1, ds, s1, a1.sit, rv, hl, ?_⟩
    cases e : m ds s1 with
    | ok y => rw [e] at p1; exact p1
    | exc c => rw [e] at p1; exact p1.elim
    | bad => rw [e] at p1; exact p1.elim
  · rw [if_neg hl] at p1; exact p1.elim
end
def outD (r : R (Fl × Dr)) : R (PD × Dr) := match r with
  | .ok (.rt d, s) => .ok (d, s)
  | .ok (.nx _, s) => .ok (.none, s)
  | _ => .bad
def mBodyD (n : Nat) (f : Env → Dr → R (Fl × Dr)) : List PD → Dr → R (PD × Dr) := fun ds s => outD (f (ds.map some ++ List.replicate n none) s)
section
variable {P : Program} {w : World} {K : PySem.W.Frag} {mg : Str → Option Value} {base : Heap} {x qual : Str} {params : Arguments} {body : List Stmt} {scope : Scope} {f : Addr} {fd : FuncData} {cls : Nat → Addr}
/-- A DEF THAT DRAWS, by its body -/
theorem fn_draw {N ps : List Str} {k n : Nat} {fb : Env → Dr → R (Fl × Dr)} (F : FunD K x qual params body scope [] [] f fd) (S : FnScope N ps scope) (hm : mg x = some (.ref f)) (hn : ps.length = n) (hb : Binds K fd ps [])
    (hbody : ∀ (cdv : Value) (A : Around) (outer : List PySem.Env) (s : Shared) (H : Hp) (E : XK) (da db : Addr) (G : Hp), Room k (A.deeper (envOfC qual scope s.heap.objs.size f cdv)) →
      DSs (cxOf (L2.CX P w) P w K mg base N qual scope f cdv A outer s H E) ⟨Wdr cls da db, G, H, E0⟩ [] [] body fb) : FnD P w K mg base cls (k + 1) x n (mBodyD (N.length - n) fb) := by
  refine ⟨f, fd, ps, F.ok S (fun vs H Q E h => ?_) (fun cdv A outer s H vs Q E hr h => ?_), hm, F.kp, hb⟩
  · obtain ⟨da, db, G, ds, s, _, r, hl, _⟩ := h
    rw [r.len, hl, hn]
  · obtain ⟨da, db, G, ds, st, sit, r, hl, p⟩ := h
    refine ⟨_, hbody cdv A outer s H E da db G hr, G, startD N ds, st, ⟨sit, .refl, r.begin_ N⟩, ?_⟩
    unfold mBodyD at p
    have e0 : startD N ds = ds.map some ++ List.replicate (N.length - n) none := by unfold startD; rw [hl]
    rw [e0]
    revert p
    generalize fb (ds.map some ++ List.replicate (N.length - n) none) st = r'
    intro p
    cases r' with
    | bad => exact p.elim
    | exc c => exact p.elim
    | ok y =>
      obtain ⟨fl, u⟩ := y
      cases fl with
      | nx ρ => exact fun σ' G' H' a => p .non G' H' a.gr a.sit (.inl .non)
      | rt d => exact fun v G' H' g st rv => p v G' H' g st rv
      | bk ρ => exact p.elim
      | ct ρ => exact p.elim
end
end DL

/-! DLA: sorted(set(..)) of ints -/
namespace DL
open PySem PySem.Spec PyProof.Rows L2
/-- the set as it is made -/
abbrev newSet (w : World) : Obj := { cls := .type "set", dict := none, data := .set #[] 0 (.fresh 0 0 (!w.params.followText "set-order")) }
section
variable {P : Program} {w : World} {A : Around} {E : Value → Shared → Prop} {s : Shared}
theorem set_of_list {l : Addr} {items : Array Value} (ns : List Int) {Q : Value → Shared → Prop} (hh : A.handled = none) (hl : s.heap.IsList l items) (hit : IntsAre items.toList ns) (hb : ns.length + 1 < scanBound)
    (h : ∀ (h' : Heap) (tk c : Nat), SetR w h' s.heap.objs.size (fun j => decide (j ∈ ns)) c → c ≤ ns.length → (∀ b o, s.heap.get? b = some o → h'.get? b = some o) → Q (.ref s.heap.objs.size) { s with heap := h', toks := tk }) :
    wpAny (model P w) A (call (.type "set") [.ref l]) Q E s := by
  have isz : items.size = ns.length := (Array.length_toList (xs := items)).symm.trans (IntsAre.length hit)
  obtain ⟨c, tl, hmro⟩ := F.called_set.mro
  have hmade := F.called_set.made
  have hsub := F.called_set.sub
  refine wpAny_call (codeAny_of_tree ?_)
  show wpAny _ _ (callAny (.type "set") _) _ _ _
  refine wpAny_pure ⟨Code.quiet_builtin _ (by decide +kernel), codeAny_builtin F.entry_type_call ?_⟩
  rw [Around.under_plain (weight_type_call_type "set" [.ref l] []) rfl]
  have h1 := F.called_set.notType
  have h2 := F.called_set.canCreate
  have hct := F.typeCall_set_1 (.ref l)
  repeat (any_goals (first | assumption | wp_step))
  refine codeAny_mono (code_set_led1 (.ref l) (E := E) (Q₁ := fun obj s₁ => obj = .ref s.heap.objs.size ∧ s₁ = { s with heap := s.heap.push (newSet w) }) ⟨rfl, rfl⟩) fun r s₁ hr => ?_
  cases r with
  | error e => exact hr
  | ok fl =>
    cases fl with
    | ret obj =>
      obtain ⟨rfl, rfl⟩ := hr
      have gS : (s.heap.push (newSet w)).get? s.heap.objs.size = some (newSet w) := Heap.get?_push_size _ rfl
      have tS : Shared.TypeIs { s with heap := s.heap.push (newSet w) } (.ref s.heap.objs.size) "set" := ⟨_, gS, rfl⟩
      have hli := F.called_set.init.lookup
      have hbi := F.called_set.init.bind (.ref s.heap.objs.size)
      repeat (any_goals (first | assumption | wp_step))
      refine codeAny_mono (codeAny_call_builtin (R := wants (fun r s₂ => r = .none ∧ ∃ h' tk c, s₂ = { s with heap := h', toks := tk } ∧ SetR w h' s.heap.objs.size (fun j => decide (j ∈ ns)) c ∧ c ≤ ns.length ∧ (∀ b o, s.heap.get? b = some o → h'.get? b = some o)) E) F.called_set.init.plain F.entry_set_init (check_set_init_1 tS ?_)) fun r₂ s₂ hr₂ => ?_
      · obtain ⟨⟨oc, od, odt, os⟩, gl, rfl, nl, rfl⟩ := hl
        have gl' : (s.heap.push (newSet w)).get? l = some { cls := .type "list", dict := od, data := .seq items nl, slots := os } := Heap.get?_push_of_some _ gl
        have hsls := F.sub_list_set
        have hslf := F.sub_list_frozenset
        have hne : (Value.type "list" == Value.type "dict") = false := by decide
        have hl1 : (s.heap.push (newSet w)).IsList l items := ⟨_, gl', rfl, nl, rfl⟩
        unfold Builtin.«set.__init__» noKeywords Builtin.Frozenset.updateFrom
        generalize hPI : pyIter = PI
        wp_walk
        subst hPI
        refine wpAny_pyIter_list hl1 (wpAny_bind (wpAny_runValue ?_))
        have lS : l < s.heap.objs.size := Heap.lt_size gl
        have h3 : A.in1.in1.in1.handled = none := by simp [hh]
        have zS : (s.heap.push (newSet w)).objs.size = s.heap.objs.size + 1 := Heap.size_push ..
        have nI : l ≠ (s.heap.push (newSet w)).objs.size := by rw [zS]; exact Nat.ne_of_lt (Nat.lt_succ_of_lt lS)
        have nf : s.heap.objs.size ∉ [(s.heap.push (newSet w)).objs.size, l] := by
          rw [zS]
          simp only [List.mem_cons, List.not_mem_nil, or_false, not_or]
          exact ⟨Nat.ne_of_lt (Nat.lt_succ_self _), Nat.ne_of_gt lS⟩
        have vl : ∀ (i : Nat) (v : Value), items[i]? = some v → ∃ k t, ns[i]? = some k ∧ v = .int k t := fun i v hv => by
          have hi : i < ns.length := isz ▸ (Array.getElem?_eq_some_iff.mp hv).1
          obtain ⟨t, e⟩ := PyProof.Rows.IntsAre.int_at hit i v ((Array.getElem?_toList ..).trans hv)
          refine ⟨ns[i], t, List.getElem?_eq_getElem hi, e.trans ?_⟩
          rw [List.getD_eq_getElem?_getD, List.getElem?_eq_getElem hi]; rfl
        refine set_update_ints ((Walks.list h3 _ l nI items).toS) s.heap.objs.size nf ns isz hb vl (items.size - 0) 0 _ (by omega) (Nat.zero_le _) ⟨⟨_, Heap.get?_push_size _ rfl, rfl, rfl⟩, (hl1.push _)⟩ ⟨0, Nat.le_refl 0, setR_new_at (Heap.get?_push_of_some _ gS)⟩ ?_
        intro s' c' hm hc' hS'
        obtain ⟨h', g2, d', tk', os'⟩ := s'
        obtain rfl : g2 = s.gens := hm.gens
        obtain rfl : d' = s.drawn := hm.drawn
        obtain rfl : os' = s.os := hm.os
        refine wpAny_pure (wpAny_pure ⟨rfl, h', tk', c', rfl, hS', isz ▸ hc', fun b o e => ?_⟩)
        have b0 : b < s.heap.objs.size := Heap.lt_size e
        refine hm.heap b o ?_ (Heap.get?_push_of_some _ (Heap.get?_push_of_some _ e))
        simp only [List.mem_cons, List.not_mem_nil, or_false, not_or]
        exact ⟨Nat.ne_of_lt b0, by rw [zS]; exact Nat.ne_of_lt (Nat.lt_succ_of_lt b0)⟩
      · cases r₂ with
        | error e => exact hr₂
        | ok fl₂ =>
          cases fl₂ with
          | ret r =>
            obtain ⟨rfl, h', tk, c', rfl, hS', hc', hk'⟩ := hr₂
            repeat (any_goals (first | assumption | wp_step))
            exact h _ _ _ hS' hc' hk'
          | _ => exact hr₂.elim
    | _ => exact hr.elim
end
section
variable {X : Cx} {B : Bs} {O : List Nat}
theorem cr_setL (hc : X.calm = true) : CallR X (.type "set") (fun vs H Q => ∃ (a : Addr) (ns : List Int), vs = [V.ref a] ∧ SqL X.K H a (ns.map V.int) ∧ ns.length < 4000 ∧ ∀ (p : Addr) (c : Nat), c ≤ ns.length → H p = none → Q (.ref p) (upd H p (SetO X.w p (fun j => decide (j ∈ ns)) c))) := by
  intro pins s σ H vs us Q I r h
  obtain ⟨a, ns, rfl, hs, hl, q⟩ := h
  obtain ⟨its, rv, pl, hz⟩ := I.list hs
  rw [Vals.ref1 r]
  have hi : IntsAre its.toArray.toList ns := ints_of_vals rv
  refine set_of_list ns (I.ok.hd hc) pl.isList hi (by unfold scanBound; omega) fun h' tk c R1 hcn k => ?_
  exact ⟨.ref _, upd H s.heap.objs.size (SetO X.w s.heap.objs.size (fun j => decide (j ∈ ns)) c), I.laid (t' := tk) k (Nat.le_refl _) (setO_new R1), rfl, q _ c hcn (I.hok.fresh (Nat.le_refl _))⟩
/-- sorted(set(xs)), ints -/
def insU (k : Int) : List Int → List Int
  | [] => [k]
  | x :: r => if k < x then k :: x :: r else if k = x then x :: r else x :: insU k r
def sortU : List Int → List Int
  | [] => []
  | x :: r => insU x (sortU r)
theorem mem_insU {k j : Int} : ∀ {l : List Int}, j ∈ insU k l ↔ j = k ∨ j ∈ l
  | [] => by simp [insU]
  | x :: r => by
    unfold insU
    split
    · simp
    · split
      · rename_i h1 h2
        subst h2
        simp
      · simp only [List.mem_cons, mem_insU (l := r)]
        constructor
        · rintro (h | h | h)
          · exact .inr (.inl h)
          · exact .inl h
          · exact .inr (.inr h)
        · rintro (h | h | h)
          · exact .inr (.inl h)
          · exact .inl h
          · exact .inr (.inr h)
theorem mem_sortU {j : Int} : ∀ {l : List Int}, j ∈ sortU l ↔ j ∈ l
  | [] => by simp [sortU]
  | x :: r => by
    unfold sortU
    rw [mem_insU, mem_sortU (l := r), List.mem_cons]
theorem lt_insU {k : Int} : ∀ {l : List Int}, l.Pairwise (· < ·) → (insU k l).Pairwise (· < ·)
  | [], _ => by simp [insU]
  | x :: r, h => by
    have h' := List.pairwise_cons.mp h
    unfold insU
    split
    · rename_i hk
      refine List.pairwise_cons.mpr ⟨fun y hy => ?_, h⟩
      rcases List.mem_cons.mp hy with z | z
      · rw [z]; exact hk
      · exact Int.lt_trans hk (h'.1 y z)
    · split
      · exact h
      · refine List.pairwise_cons.mpr ⟨fun y hy => ?_, lt_insU h'.2⟩
        rcases mem_insU.mp hy with z | z
        · rw [z]; omega
        · exact h'.1 y z
theorem lt_sortU : ∀ {l : List Int}, (sortU l).Pairwise (· < ·)
  | [] => .nil
  | x :: r => lt_insU lt_sortU
theorem sorted_eq : ∀ {l m : List Int}, l.Pairwise (· < ·) → m.Pairwise (· < ·) → (∀ k, k ∈ l ↔ k ∈ m) → l = m
  | [], [], _, _, _ => rfl
  | [], y :: m, _, _, h => by have := (h y).mpr (by simp); simp at this
  | x :: l, [], _, _, h => by have := (h x).mp (by simp); simp at this
  | x :: l, y :: m, h1, h2, h => by
    have p1 := List.pairwise_cons.mp h1
    have p2 := List.pairwise_cons.mp h2
    have e : x = y := by
      rcases List.mem_cons.mp ((h x).mp (by simp)) with z | z
      · exact z
      · rcases List.mem_cons.mp ((h y).mpr (by simp)) with w | w
        · exact w.symm
        · have := p2.1 x z
          have := p1.1 y w
          omega
    subst e
    congr 1
    refine sorted_eq p1.2 p2.2 fun k => ⟨fun hk => ?_, fun hk => ?_⟩
    · rcases List.mem_cons.mp ((h k).mp (List.mem_cons_of_mem _ hk)) with z | z
      · have := p1.1 k hk; omega
      · exact z
    · rcases List.mem_cons.mp ((h k).mpr (List.mem_cons_of_mem _ hk)) with z | z
      · have := p2.1 k hk; omega
      · exact z
def pSortSet : PD → R PD
  | .list xs => match toInts xs with
    | some ns => if ns.length < 64 then .ok (.list ((sortU ns).map PyData.int)) else .bad
    | none => .bad
  | _ => .bad
theorem de_sortSet {e : Expr} {fe : Mx B PD} {p p2 q pos : Pos} (hm1 : X.mg "sorted" = none) (hm2 : X.mg "set" = none) (he : DE X B O e fe) (hc : X.calm = true := by rfl) (hg1 : Gl X "sorted" := by rfl) (hg2 : Gl X "set" := by rfl)
    (s1 : starEach [e] X.env = (false, eval e X.env) :: starEach [] X.env := by rfl) (s2 : starEach [.Call (.Name "set" p2) [e] [] q] X.env = (false, eval (.Call (.Name "set" p2) [e] [] q) X.env) :: starEach [] X.env := by rfl)
    (l1 : (backTo q (starEach [] X.env)).any (·.1) = false := by rfl) (l2 : (backTo pos (starEach [] X.env)).any (·.1) = false := by rfl) : DE X B O (.Call (.Name "sorted" p) [.Call (.Name "set" p2) [e] [] q] [] pos) (cUn pSortSet fe) :=
  PE.imp (pe_callB (cr_sortedSet hc) hg1 hm1 (by decide +kernel) (pa_cons (pe_callTy (cr_setL hc) hg2 hm2 (by decide +kernel) (pa_cons he pa_nil s1) (by decide) (by decide) s1 l1) pa_nil s2) (by decide) (by decide) s2 l2) fun σ H Q h => by
    obtain ⟨G, ρ, s, a, p⟩ := h
    refine rdE.then a p fun x G1 H1 dx s1 a1 g1 rx p1 => ?_
    by_cases hd : isD dx = true
    · rw [if_pos hd] at p1
      unfold pSortSet at p1
      split at p1
      · rename_i xs
        split at p1
        · rename_i ns en
          split at p1
          · rename_i hl
            obtain ⟨l, vs, rfl, gl, dl⟩ := (rx.dg (isD_tok rfl)).of_lst
            rw [toInts_eq en] at dl
            have e2 := dl.ints
            subst e2
            refine ⟨l, ns, rfl, SqL.of (a1.sit.sub _ _ gl), by omega, fun p c hcn hp => ?_⟩
            refine ⟨p, _, c, rfl, upd_same, by omega, fun ms q hlt hmem hlen hq => ?_⟩
            have ems : ms = sortU ns := sorted_eq hlt lt_sortU fun k => by
              rw [hmem k, mem_sortU, decide_eq_true_eq]
            subst ems
            -- the set is an object of its own that the ghost heap does not know
            have S2 := a1.sit.allocH (o := SetO X.w p (fun j => decide (j ∈ ns)) c) hp
            have g2 := Gr.allocH (fp := B.W.fp) (G := G1) (o := SetO X.w p (fun j => decide (j ∈ ns)) c) hp
            exact PostE.lst (ds := (sortU ns).map PyData.int) S2 (DgAll.of_ints _) (PostE.mono g2 p1) hq
          · exact p1.elim
        · exact p1.elim
      · exact p1.elim
    · rw [if_neg hd] at p1; exact p1.elim
/-- sorted(xs), ints -/
def insS (k : Int) : List Int → List Int
  | [] => [k]
  | x :: r => if k ≤ x then k :: x :: r else x :: insS k r
def sortS : List Int → List Int
  | [] => []
  | x :: r => insS x (sortS r)
theorem perm_insS {k : Int} : ∀ {l : List Int}, (insS k l).Perm (k :: l)
  | [] => .refl _
  | x :: r => by
    unfold insS
    split
    · exact .refl _
    · exact ((perm_insS (l := r)).cons x).trans (List.Perm.swap k x r)
theorem perm_sortS : ∀ {l : List Int}, (sortS l).Perm l
  | [] => .refl _
  | x :: r => by
    unfold sortS
    exact perm_insS.trans (perm_sortS.cons x)
theorem le_insS {k : Int} : ∀ {l : List Int}, l.Pairwise (· ≤ ·) → (insS k l).Pairwise (· ≤ ·)
  | [], _ => by simp [insS]
  | x :: r, h => by
    have h' := List.pairwise_cons.mp h
    unfold insS
    split
    · rename_i hk
      refine List.pairwise_cons.mpr ⟨fun y hy => ?_, h⟩
      rcases List.mem_cons.mp hy with z | z
      · rw [z]; exact hk
      · exact Int.le_trans hk (h'.1 y z)
    · refine List.pairwise_cons.mpr ⟨fun y hy => ?_, le_insS h'.2⟩
      rcases List.mem_cons.mp (perm_insS.mem_iff.mp hy) with z | z
      · rw [z]; omega
      · exact h'.1 y z
theorem le_sortS : ∀ {l : List Int}, (sortS l).Pairwise (· ≤ ·)
  | [] => .nil
  | x :: r => le_insS le_sortS
theorem perm_sorted_eq : ∀ {l m : List Int}, l.Perm m → l.Pairwise (· ≤ ·) → m.Pairwise (· ≤ ·) → l = m := fun h a b => List.Perm.eq_of_pairwise (fun x y _ _ h1 h2 => Int.le_antisymm h1 h2) a b h
def pSorted : List PD → R PD
  | [.list xs] => match toInts xs with
    | some ns => .ok (.list ((sortS ns).map PyData.int))
    | none => .bad
  | _ => .bad
theorem dc_sorted : CallR X (.builtin "sorted") (rdC pSorted) := by
  refine CallR.by fun vs H Q h => ?_
  obtain ⟨G, ds, sb, rs, p⟩ := h
  unfold pSorted at p
  split at p
  · obtain ⟨v, rfl, rv⟩ := rs.one
    obtain ⟨a, xs, rfl, ga, da⟩ := rv.of_lst
    split at p
    · rename_i ns e
      rw [toInts_eq e] at da
      have e2 := da.ints
      subst e2
      refine ⟨_, cr_sortedI, _, ns, rfl, SqL.of (sb _ _ ga), fun ms q hp hs hq => ?_⟩
      have em : ms = sortS ns := perm_sorted_eq (hp.trans perm_sortS.symm) hs le_sortS
      subst em
      exact p.lst sb (DgAll.of_ints _) hq
    · exact p.elim
  · exact p.elim
end
end DL

/-! DLB: what every def's derivation wants -/
namespace DL
open PySem PySem.Spec PyProof.Rows L2
structure Free (mg : Str → Option Value) : Prop where
  len_ : mg "len" = none
  isinstance_ : mg "isinstance" = none
  all_ : mg "all" = none
  sum_ : mg "sum" = none
  sorted_ : mg "sorted" = none
  set_ : mg "set" = none
  max_ : mg "max" = none
  min_ : mg "min" = none
  range_ : mg "range" = none
  zip_ : mg "zip" = none
  enumerate_ : mg "enumerate" = none
  list_ : mg "list" = none
  tuple_ : mg "tuple" = none
  abs_ : mg "abs" = none
  str_ : mg "str" = none
  int_ : mg "int" = none
  bool_ : mg "bool" = none
structure ExcF (K : PySem.W.Frag) (mg : Str → Option Value) (cls : Nat → Addr) (c : Nat) (x : Str) : Prop where
  exc : PySem.W.excIn K (cls c) [.type "ValueError", .type "Exception", .type "BaseException", .type "object"] "ValueError.__new__" = true
  glob : mg x = some (.ref (cls c))
  keep : PySem.W.keepIn K (.ref (cls c)) = true
  sub : PySem.W.subIn K (.ref (cls c)) (.type "BaseException") = some true
  typ : PySem.W.typeIn K (.ref (cls c)) = some (.type "type")
theorem ExcF.c {X : Cx} {B : Bs} {c : Nat} {x : Str} (h : ExcF X.K X.mg B.W.cls c x) : ExcC X B c x := ⟨h.exc, h.glob, h.keep, raises_own h.sub h.typ⟩
section
variable {CX : CXT} {P : Program} {w : World} {K : PySem.W.Frag} {mg : Str → Option Value} {base : Heap} {N : List Str} {qual : Str} {scope : Scope} {f : Addr} {cd : Value} {A : Around} {outer : List PySem.Env} {s : Shared} {H : Hp} {E : XK}
theorem takesE_of : Takes (cxOf (L2.CX P w) P w K mg base N qual scope f cd A outer s H E) (fun cls d _ H => E cls d H) := takes_of rfl rfl rfl rfl
theorem passesE_of {X : Cx} {E : XK} (tk : Takes X (fun cls d _ H => E cls d H)) : Passes (L2.CX X.prog X.w) X E := passes_call tk fun _ _ _ _ h => h
theorem passesO_of : PassesOwn (model P w) (cxOf CX P w K mg base N qual scope f cd A outer s H E).A (cxOf CX P w K mg base N qual scope f cd A outer s H E).env (cxOf CX P w K mg base N qual scope f cd A outer s H E).xe := passes_of (X := cxOf CX P w K mg base N qual scope f cd A outer s H E) rfl
end
end DL

/-! DLC: the draws: plain functions -/
namespace DL
open PySem PySem.Spec PyProof.Rows L2
def hashD (cell c lim : Int) : Int := (((cell + 104729 * c) % 4294967291) ^ 5 % 4294967279 / 64 * 69621 + ((cell + 104729 * c) % 4294967291) ^ 5 % 4294967279) % 4294967231 / 8 % lim
def drawM (lim : Int) (s : Dr) : Int × Dr :=
  let c := s.2 + 1
  let i := (c % (s.1.length : Int)).toNat
  let cell := s.1.getD i 0
  if 1000000000000000000 ≤ cell then (cell % lim, (s.1.set i (cell / lim), c)) else (hashD cell c lim, (s.1, c))
def m__law_draw : List PD → Dr → R (PD × Dr) := fun ds s => match ds with
  | [.dict _, .int lim] => if 0 < lim ∧ lim < 1073741824 ∧ 0 < s.1.length then .ok (.int (drawM lim s).1, (drawM lim s).2) else .bad
  | _ => .bad
theorem drawM_range {lim : Int} (h : 0 < lim) (s : Dr) : 0 ≤ (drawM lim s).1 ∧ (drawM lim s).1 < lim := by
  unfold drawM
  dsimp only
  split
  · exact ⟨Int.emod_nonneg _ (by omega), Int.emod_lt_of_pos _ h⟩
  · unfold hashD
    exact ⟨Int.emod_nonneg _ (by omega), Int.emod_lt_of_pos _ h⟩
theorem drawM_len (lim : Int) (s : Dr) : (drawM lim s).2.1.length = s.1.length := by
  unfold drawM
  dsimp only
  split
  · rw [List.length_set]
  · rfl
theorem pd_tok {tk : Nat → V} {G : Hp} {v : V} {x : List (PD × PD)} (h : Rp tk G v (.dict x)) : ∃ n, v = tk n := by
  rcases h with h | ⟨n, _, e⟩
  · cases h
  · exact ⟨n, e⟩
/-- behind a draw: the two draws' objects are other ones, all else stays -/
theorem draw_post {cls : Nat → Addr} {da db : Addr} {G H H' : Hp} {s s' : Dr} {d : PD} {v : V} {Q : VK} (S : Sit (Wdr cls da db) G H s) (h1 : ∀ a, a ≠ da → a ≠ db → H' a = H a) (h2 : H' da = some (.lst [.ref db, .int s'.2])) (h3 : H' db = some (.lst (s'.1.map V.int)))
    (p : PostE ⟨Wdr cls da db, G, H, E0⟩ G H (.ok (d, s')) Q) (r : Dg G v d) : Q v H' := by
  have nd : da ≠ db := S.rep.1
  have out : ∀ {a}, ¬ (Wdr cls da db).fp a → H' a = H a := fun {a} n => h1 a (fun z => n (.inl z)) fun z => n (.inr z)
  refine p v G H' ⟨fun _ _ e => e, fun a o n e => by rw [out n]; exact e, fun a e => ?_, fun _ _ e => .inl e⟩ ⟨fun a o e => ?_, S.fpG, fun a f => ?_, nd, h2, h3⟩ (.inl r)
  · by_cases z1 : a = da
    · rw [z1, h2] at e; cases e
    · by_cases z2 : a = db
      · rw [z2, h3] at e; cases e
      · rw [h1 a z1 z2] at e; exact e
  · rw [out fun f => by rw [S.fpG a f] at e; cases e]
    exact S.sub a o e
  · rcases f with z | z
    · rw [z, h2]; exact fun q => by cases q
    · rw [z, h3]; exact fun q => by cases q
theorem ixN_emod {n : Nat} {c : Int} (h : 0 < n) : ixN n (c % (n : Int)) = some (c % (n : Int)).toNat := by
  have h1 : 0 ≤ c % (n : Int) := Int.emod_nonneg _ (by omega)
  have h2 : c % (n : Int) < n := Int.emod_lt_of_pos _ (by omega)
  unfold ixN
  rw [if_pos h1, if_pos h2]
/-- data that == takes: no deeper than n -/
def Sh (n : Nat) (d : PD) : Prop := PyData.canLay0 d = true ∧ PyData.depth d ≤ n
theorem Sh.all {n : Nat} : ∀ {xs : List PD}, (∀ x ∈ xs, Sh n x) → PyData.canLayAll0 xs = true ∧ PyData.depthAll xs ≤ n
  | [], _ => ⟨rfl, Nat.zero_le _⟩
  | x :: xs, h => by
    have h1 := h x (by simp)
    have h2 := Sh.all (n := n) (xs := xs) fun y hy => h y (List.mem_cons_of_mem _ hy)
    refine ⟨?_, ?_⟩
    · show (PyData.canLay0 x && PyData.canLayAll0 xs) = true
      rw [h1.1, h2.1]; rfl
    · show max (PyData.depth x) (PyData.depthAll xs) ≤ n
      exact Nat.max_le.mpr ⟨h1.2, h2.2⟩
theorem Sh.list {n : Nat} {xs : List PD} (h : ∀ x ∈ xs, Sh n x) : Sh (n + 1) (.list xs) := ⟨(Sh.all h).1, Nat.succ_le_succ (Sh.all h).2⟩
theorem Sh.tuple {n : Nat} {xs : List PD} (h : ∀ x ∈ xs, Sh n x) : Sh (n + 1) (.tuple xs) := ⟨(Sh.all h).1, Nat.succ_le_succ (Sh.all h).2⟩
theorem Sh.int {n : Nat} (i : Int) : Sh n (.int i) := ⟨rfl, Nat.zero_le _⟩
theorem Sh.bool {n : Nat} (i : Bool) : Sh n (.bool i) := ⟨rfl, Nat.zero_le _⟩
theorem Sh.none {n : Nat} : Sh n .none := ⟨rfl, Nat.zero_le _⟩
theorem Sh.mono {n m : Nat} {d : PD} (h : Sh n d) (l : n ≤ m) : Sh m d := ⟨h.1, Nat.le_trans h.2 l⟩
theorem Sh.ok {n : Nat} {d : PD} (h : Sh n d) (l : n ≤ 64) : SeqAt.shaped d = true := by
  unfold SeqAt.shaped
  rw [h.1, decide_eq_true (Nat.le_trans h.2 l)]; rfl
theorem shaped_ints (ns : List Int) : SeqAt.shaped (.list (ns.map PyData.int)) = true :=
  (Sh.list (n := 0) fun x hx => by
    obtain ⟨i, _, rfl⟩ := List.mem_map.mp hx
    exact Sh.int i).ok (by decide)
/-- a script's start -/
def startN (ns : List Int) : List Int := if ns = [] then [0] else ns
def spStart (K : PySem.W.Frag) : Sp := fun vs H Q _ => ∃ (a : Addr) (ns : List Int), vs = [.ref a] ∧ SqL K H a (ns.map V.int) ∧
  ∀ (da db : Addr) (H' : Hp), Same H H' → H da = none → H db = none → da ≠ db → H' da = some (.lst [.ref db, .int 0]) → H' db = some (.lst ((startN ns).map V.int)) → Q (.ref da) H'
end DL

/-! DLD: the law's own def, the head's facts -/
namespace DL
open PySem PySem.Spec PyProof.Rows L2
def spLaw (K : PySem.W.Frag) : Sp := fun vs H Q _ => ∃ (a : Addr) (ns : List Int), vs = [.ref a] ∧ SqL K H a (ns.map V.int) ∧ ns.length ≤ 63 ∧ ∀ H', Q (.bl true) H'
section
variable {P : Program} {w : World} {K : PySem.W.Frag} {mg : Str → Option Value} {base : Heap} {qual : Str} {params : Arguments} {body : List Stmt} {scope : Scope} {f : Addr} {fd : FuncData} {cls : Nat → Addr}
theorem fn_law {N : List Str} {k : Nat} {s0 : Stmt} {rest : List Stmt} {fb : Env → Dr → R (Fl × Dr)} (F : FunD K "law" qual params body scope [] [] f fd) (S : FnScope N ["script"] scope) (hbd : body = s0 :: rest) (hN : 2 ≤ N.length)
    (h0 : ∀ (cdv : Value) (A : Around) (outer : List PySem.Env) (s : Shared) (H : Hp) (E : XK), Room k (A.deeper (envOfC qual scope s.heap.objs.size f cdv)) →
      PS (cxOf (L2.CX P w) P w K mg base N qual scope f cdv A outer s H E) s0 (tAsg (tCall (spStart K) [] E0 (tCons (tVar 0) tNil)) (gName 1)))
    (hr : ∀ (cdv : Value) (A : Around) (outer : List PySem.Env) (s : Shared) (H : Hp) (E : XK) (da db : Addr) (G0 H0 : Hp), Room k (A.deeper (envOfC qual scope s.heap.objs.size f cdv)) →
      DSs (cxOf (L2.CX P w) P w K mg base N qual scope f cdv A outer s H E) ⟨Wdr cls da db, G0, H0, E0⟩ [] [] rest fb)
    (hlaw : ∀ ns : List Int, 0 < ns.length → ∃ s', fb (none :: some (tokD 0) :: List.replicate (N.length - 2) none) (ns, 0) = .ok (.rt (.bool true), s')) : FnOk P w K mg base (L2.CX P w) (k + 1) f fd ["script"] (spLaw K) := by
  refine F.ok S (fun vs H Q E h => ?_) (fun cdv A outer s H vs Q E hR h => ?_)
  · obtain ⟨a, ns, rfl, _⟩ := h
    rfl
  · obtain ⟨a, ns, rfl, hS, hlen, q⟩ := h
    subst hbd
    have hb' : PSs (cxOf (L2.CX P w) P w K mg base N qual scope f cdv A outer s H E) rest (fun D σ H' => ∃ da db G0 H0, rdS ⟨Wdr cls da db, G0, H0, E0⟩ [] [] fb D σ H') := ⟨fun pins s' σ H' D I h => by
      obtain ⟨da, db, G0, H0, h⟩ := h
      exact (hr cdv A outer s H E da db G0 H0 hR).run pins s' σ H' D I h⟩
    refine ⟨_, pss_cons (h0 cdv A outer s H E hR) hb', ?_⟩
    obtain ⟨n, hn⟩ : ∃ n, N.length = n + 2 := ⟨N.length - 2, by omega⟩
    have est : L2.start N [.ref a] = some (.ref a) :: none :: List.replicate n none := by
      unfold L2.start
      rw [hn]
      show [some (V.ref a)] ++ List.replicate (n + 2 - 1) none = _
      rw [show n + 2 - 1 = n + 1 by omega, List.replicate_succ]
      rfl
    rw [est]
    refine ⟨.ref a, rfl, a, ns, rfl, hS, fun da db H' sm na nb nd ea eb => ?_⟩
    have hpos : 0 < (startN ns).length := by
      unfold startN
      split
      · decide
      · rename_i h
        exact List.length_pos_iff.mpr h
    obtain ⟨s', e⟩ := hlaw (startN ns) hpos
    refine ⟨da, db, fun _ => none, H', fun _ => none, none :: some (tokD 0) :: List.replicate n none, (startN ns, 0), ⟨⟨(fun _ _ h => by cases h), fun _ _ => rfl, fun x fx => ?_, nd, ea, eb⟩, .refl, ?_⟩, ?_⟩
    · rcases fx with z | z
      · rw [z, ea]; exact fun h => by cases h
      · rw [z, eb]; exact fun h => by cases h
    · refine ⟨by simp, fun i d e _ => ?_, fun i d e m => by simp at m, fun i j p d e m => by simp at m⟩
      match i, e with
      | 0, e => cases e
      | 1, e =>
        cases e
        exact ⟨.ref da, rfl, .inr ⟨0, rfl, rfl⟩⟩
      | i + 2, e =>
        have e' : (List.replicate n (none : Option PD))[i]? = some (some d) := e
        rw [List.getElem?_replicate] at e'
        split at e' <;> cases e'
    · rw [show n = N.length - 2 by omega, e]
      intro v G' H'' g st rv
      have ev : v = .bl true := (rv.dg (isD_tok rfl)).of_bl
      rw [ev]
      exact q H''
end
theorem law_noX {P : Program} {w : World} {K : PySem.W.Frag} {mg : Str → Option Value} {base : Heap} {k : Nat} {f : Addr} {fd : FuncData} {ps : List Str} (F : FnOk P w K mg base (L2.CX P w) k f fd ps (spLaw K)) : FnOk P w K mg base CX0 k f fd ps (spLaw K) := by
  refine ⟨F.len, fun A outer s H args us vs Q E hr he hb hv hs => ?_⟩
  refine codeAny_mono (F.run A outer s H args us vs Q E0 hr he hb hv hs) fun r s' q => ?_
  cases r with
  | ok fl =>
    cases fl with
    | ret u => exact q
    | _ => exact q
  | error e =>
    obtain ⟨_, _, _, _, _, _, _, _, _, _, _, _, z⟩ := q
    exact z.elim
/-! ### the head -/
def excN : Nat → Str
  | 0 => "BadThings"
  | 1 => "BadNumber"
  | 2 => "BadPoints"
  | 3 => "BadText"
  | _ => "NotFound"
def clsK (K : PySem.W.Frag) (c : Nat) : Addr := He.ga K (excN c)
def freeFa : List He.Fa := [.free "len", .free "isinstance", .free "all", .free "sum", .free "sorted", .free "set", .free "max", .free "min", .free "range", .free "zip", .free "enumerate", .free "list", .free "tuple", .free "abs", .free "str", .free "int", .free "bool"]
theorem free_mk {K : PySem.W.Frag} {h : Heap} {mg : Str → Option Value} (X : K.In h) (G : h.Ns mainGlobals mg) (c : ∀ f ∈ freeFa, f.ok K = true) : Free mg := by
  have z : ∀ x : Str, He.Fa.free x ∈ freeFa → mg x = none := fun x hx => He.free_ok X G (c _ hx)
  constructor <;> exact z _ (by simp [freeFa])
theorem exc_mk {K : PySem.W.Frag} {h : Heap} {mg : Str → Option Value} {c : Nat} {x : Str} (X : K.In h) (G : h.Ns mainGlobals mg) (e : x = excN c) (h1 : (He.Fa.glo x).ok K = true) (h2 : (He.Fa.exc x).ok K = true) : ExcF K mg (clsK K) c x := by
  subst e
  obtain ⟨a, b, d, t⟩ := He.exc_ok h2
  exact ⟨a, He.glo_ok X G h1, b, d, t⟩
theorem int_mk {K : PySem.W.Frag} {h : Heap} {mg : Str → Option Value} {x : Str} {i : Int} (X : K.In h) (G : h.Ns mainGlobals mg) (c : (He.Fa.int x i).ok K = true) : ∃ t, mg x = some (.int i t) := He.int_ok X G c
theorem str_mk {K : PySem.W.Frag} {h : Heap} {mg : Str → Option Value} {x z : Str} (X : K.In h) (G : h.Ns mainGlobals mg) (c : (He.Fa.str x z).ok K = true) : ∃ t, mg x = some (.str z t) := He.str_ok X G c
end DL

/-! DLE: a chain of three comparisons -/
namespace DL
open PySem PySem.Spec PyProof.Rows L2
section
variable {X : Cx} {B : Bs} {O : List Nat}
def tChain3 (r r' r2 : R2) (ta tb tc td : TE) : TE := fun σ H Q => ta σ H fun x H1 => tb σ H1 fun y H2 => r x y H2 fun z H3 => ∃ k, z = .bl k ∧
  (if k = true then tc σ H3 fun w' H4 => r' y w' H4 fun z' H5 => ∃ k', z' = .bl k' ∧ (if k' = true then td σ H5 fun u' H6 => r2 w' u' H6 Q else Q (.bl false) H5) else Q (.bl false) H3)
theorem pt_chain3 {a b c e : Expr} {ta tb tc te : TE} {pos : Pos} {op op' op2 : CmpOp} {r r' r2 : R2} (ho : OpR X (compareOp op) r) (ho' : OpR X (compareOp op') r') (ho2 : OpR X (compareOp op2) r2) (ha : PE X a ta) (hb : PE X b tb) (hc : PE X c tc) (he : PE X e te)
    (hm : lastMarks [op, op', op2] [b, c, e] = false := by with_unfolding_all rfl) : PT X (.Compare a [op, op', op2] [b, c, e] pos) (tTest (tChain3 r r' r2 ta tb tc te)) := by
  refine ⟨fun pins s σ H Q I h => ?_⟩
  refine isTrue_chain (thn (ha.run pins s σ H _ I h) fun v s1 ⟨x, H1, I1, r1, q1⟩ => test_link (thn (hb.run pins s1 σ H1 _ I1 q1) fun u s2 ⟨y, H2, I2, r2, q2⟩ =>
    thn (ho pins s2 σ H2 x y v u _ I2 r1 r2 q2) fun d s3 ⟨z, H3, I3, r3, k, e, q3⟩ => ?_)) hm
  subst e
  cases r3
  refine wpAny_truthy_bool ?_
  cases k with
  | false =>
    obtain ⟨k', e', q'⟩ := q3
    cases e'
    exact ite_ff ⟨H3, I3, q'⟩
  | true =>
    refine ite_tt (test_link (thn (hc.run pins s3 σ H3 _ I3 q3) fun w' s4 ⟨z', H4, I4, r4, q4⟩ => thn (ho' pins s4 σ H4 y z' u w' _ I4 r2 r4 q4) fun d' s5 ⟨z2, H5, I5, r5, k2, e2, q5⟩ => ?_))
    subst e2
    cases r5
    refine wpAny_truthy_bool ?_
    cases k2 with
    | false =>
      obtain ⟨k', e', q'⟩ := q5
      cases e'
      exact ite_ff ⟨H5, I5, q'⟩
    | true =>
      refine ite_tt (test_last (thn (he.run pins s5 σ H5 _ I5 q5) fun w2 s6 ⟨z3, H6, I6, r6, q6⟩ => thn (ho2 pins s6 σ H6 z' z3 w' w2 _ I6 r4 r6 q6) fun d3 s7 ⟨z4, H7, I7, r7, k3, e3, q7⟩ => ?_))
      subst e3
      cases r7
      exact wpAny_truthy_bool ⟨H7, I7, q7⟩
def cChain3 {d : Type} (f g h : PD → PD → R PD) (a b c e : Env → d → R (PD × d)) : Env → d → R (PD × d) := fun ρ s =>
  bnd (a ρ s) fun x s1 => bnd (b ρ s1) fun y s2 => if isD x && isD y then
    bnd (lft (isOk (f x y)) s2) fun z s3 => match z with
      | .bool true => bnd (c ρ s3) fun w s4 => if isD w then
          bnd (lft (isOk (g y w)) s4) fun z' s5 => match z' with
            | .bool true => bnd (e ρ s5) fun u s6 => if isD u then lft (isOk (h w u)) s6 else .bad
            | .bool false => .ok (.bool false, s5)
            | _ => .bad
          else .bad
      | .bool false => .ok (.bool false, s3)
      | _ => .bad
    else .bad
theorem rd_chain3 {f g h' : PD → PD → R PD} {fa fb fc fe : Mx B PD} {σ : St} {H : Hp} {Q : VK} (h : rdE B O (cChain3 f g h' fa fb fc fe) σ H Q) : tChain3 (rdO f) (rdO g) (rdO h') (rdE B O fa) (rdE B O fb) (rdE B O fc) (rdE B O fe) σ H Q := by
  obtain ⟨G, ρ, s, a, p⟩ := h
  refine rdE.then a p fun x G1 H1 dx s1 a1 g1 rx p1 => ?_
  refine rdE.then a1 p1 fun y G2 H2 dy s2 a2 g2 ry p2 => ?_
  by_cases hd : (isD dx && isD dy) = true
  · rw [if_pos hd] at p2
    have h' := hd
    rw [Bool.and_eq_true] at h'
    have hy := ry.dg (isD_tok h'.2)
    refine ⟨G2, dx, dy, a2.sit.sub, (rx.mono g2.g).dg (isD_tok h'.1), hy, PostD.isOk (PostD.ofK (r := isOk (f dx dy)) a2.sit (isOk_nx _) ?_ fun d e v G3 H3 g3 S3 rv => ?_)⟩
    · intro z; rw [z] at p2; exact p2
    · rw [e] at p2
      cases d with
      | bool b =>
        refine ⟨b, rv.of_bl, ?_⟩
        cases b with
        | true =>
          refine rdE.then (a2.step g3 S3) (PostE.mono g3 p2) fun w G4 H4 dw s4 a4 g4 rw' p4 => ?_
          by_cases hw : isD dw = true
          · rw [if_pos hw] at p4
            have hww := rw'.dg (isD_tok hw)
            refine ⟨G4, dy, dw, a4.sit.sub, (hy.mono g3.g).mono g4.g, hww, PostD.isOk (PostD.ofK (r := isOk (g dy dw)) a4.sit (isOk_nx _) ?_ fun d' e' v' G5 H5 g5 S5 rv' => ?_)⟩
            · intro z; rw [z] at p4; exact p4
            · rw [e'] at p4
              cases d' with
              | bool b' =>
                refine ⟨b', rv'.of_bl, ?_⟩
                cases b' with
                | true =>
                  refine rdE.then (a4.step g5 S5) (PostE.mono g5 p4) fun u G6 H6 du s6 a6 g6 ru p6 => ?_
                  by_cases hu : isD du = true
                  · rw [if_pos hu] at p6
                    exact ⟨G6, dw, du, a6.sit.sub, (hww.mono g5.g).mono g6.g, ru.dg (isD_tok hu), (PostD.of a6.sit p6 (isOk_nx _)).isOk⟩
                  · rw [if_neg hu] at p6; exact p6.elim
                | false => exact p4 _ G5 H5 g5 S5 (.inl (.bl false))
              | _ => exact p4.elim
          · rw [if_neg hw] at p4; exact p4.elim
        | false => exact p2 _ G3 H3 g3 S3 (.inl (.bl false))
      | _ => exact p2.elim
  · rw [if_neg hd] at p2; exact p2.elim
theorem dt_chain3 {op op' op2 : CmpOp} {f g h : PD → PD → R PD} {a b c e : Expr} {fa fb fc fe : Mx B PD} {pos : Pos} (ho : DOp X (compareOp op) f) (ho' : DOp X (compareOp op') g) (ho2 : DOp X (compareOp op2) h) (ha : DE X B O a fa) (hb : DE X B O b fb) (hc : DE X B O c fc) (he : DE X B O e fe)
    (hm : lastMarks [op, op', op2] [b, c, e] = false := by with_unfolding_all rfl) : DT X B O (.Compare a [op, op', op2] [b, c, e] pos) (cTest (cChain3 f g h fa fb fc fe)) :=
  PT.imp (pt_chain3 ho ho' ho2 ha hb hc he hm) fun σ H Q h => by
    obtain ⟨G, ρ, s, a, p⟩ := rd_test h
    exact rd_chain3 ⟨G, ρ, s, a, p⟩
end
end DL

/-! DLF: a caught error kept as a value -/
namespace DL
open PySem PySem.Spec PyProof.Rows L2
/-- an exception object of the class cls at a -/
def XO (cls : Value) (a : Addr) : HO := .ext fun h => ∃ (oe : Obj) (vs : Array Value), h.get? a = some oe ∧ Zc cls none oe ∧ oe.data = .fields vs
theorem xo_ok {P : Program} {w : World} {H : Hp} {h : Heap} {a : Addr} {cls : Value} {oe : Obj} {vs : Array Value} (e : h.get? a = some oe) (z : Zc cls none oe) (d : oe.data = .fields vs) : ObjOk P w H h a (XO cls a) :=
  ⟨⟨oe, vs, e, z, d⟩, ⟨oe, e⟩, fun _ _ ⟨o, v, q, r⟩ k => ⟨o, v, k o q, r⟩⟩
section
variable {X : Cx} {pins : List (Addr × Obj)} {σ : St} {H : Hp} {s : Shared}
/-- an object that stands in the heap is tracked from now on -/
theorem Inv.track {a : Addr} {cls : Value} {oe : Obj} {vs : Array Value} (I : Inv X pins σ H s) (e : s.heap.get? a = some oe) (z : Zc cls none oe) (d : oe.data = .fields vs) (na : H a = none) (new : X.s_0.heap.get? a = none) (nL : a ≠ X.env.locals) (np : ∀ p ∈ X.pn ++ pins, p.1 ≠ a) : Inv X pins σ (upd H a (XO cls a)) s := by
  refine ⟨I.ok, I.os, I.bare, ?_, I.loc, I.cell, ?_, ?_, ?_, ?_, I.len⟩
  · refine ⟨I.base.keep, I.base.slot, fun b o q n x => ?_, I.base.there, fun b xs q => ?_, fun b o u q => ?_, fun b ps q => ?_⟩
    · rw [upd_ne fun z => by rw [z, new] at q; cases q]
      exact I.base.free b o q n x
    · have h := I.base.tups b xs q
      rw [upd_ne fun z => by rw [z, na] at h; cases h]
      exact h
    · have h := I.base.frzs b o u q
      rw [upd_ne fun z => by rw [z, na] at h; cases h]
      exact h
    · obtain ⟨more, h⟩ := I.base.tbls b ps q
      exact ⟨more, by rw [upd_ne fun z => by rw [z, na] at h; cases h]; exact h⟩
  · rw [upd_ne (Ne.symm nL)]; exact I.free
  · intro x c hc
    obtain ⟨v, hv⟩ := I.cell x c hc
    have : c ≠ a := fun q => by
      subst q
      obtain ⟨o, h1, h2⟩ := hv
      rw [e] at h1
      cases h1
      rw [d] at h2
      cases h2
    rw [upd_ne this]
    exact I.freeC x c hc
  · intro p hp
    have h := I.pin p hp
    rw [upd_ne (np p hp)]
    exact h
  · intro b o q
    by_cases hb : b = a
    · subst hb
      rw [upd_same] at q
      cases q
      exact xo_ok e z d
    · rw [upd_ne hb] at q
      exact (I.hok b o q).stay (fun _ _ _ q => q) (fun c q => by rw [upd_ne (ne_of_none q na)]; exact q) fun c xs q => by rw [upd_ne (ne_of_none q na)]; exact q
end
section
variable {X : Cx} {x n m : Str} {c : Value} {i j : Nat} {body : List Stmt} {np p1 p2 p3 pos pos' : Pos} {tb : WX → TS}
/-- what is wished of an error of the body: its class is one that the clause takes; behind it slot j holds it -/
def wKeep (K : PySem.W.Frag) (n : Nat) (c : Value) (i j : Nat) (D : Ends) : WX := fun cls d σ H =>
  PySem.W.exmOne K cls c = some true ∧ d = none ∧ (σ.length = n → ∀ a, H a = none → D.nx (((σ.set i (some (.ref a))).set j (some (.ref a))).set i none) (upd H a (XO cls a)))
/-- try: body / except x as n: m = n -/
theorem ps_try_keep (hex0 : X.ex = []) (hs : X.stack = X.env :: X.outer) (hf : X.env.frame = some X.env.locals) (hN : X.N.Nodup) (hi : X.N[i]? = some n) (hj : X.N[j]? = some m) (hln : X.env.kindOf n = some .local) (hlm : X.env.scope.names.lookup m = some .local) (hc : Names X x c)
    (hvn : Vis X.env.scope n) (hd1 : (n == ("__debug__" : Str)) = false) (hd2 : (n == ("__classdict__" : Str)) = false) (hsw : swapsWith (.Name n p2) (some (.Name m p1)) p3.line X.env = pure false)
    (hb : ∀ (W : WX) (pn : List (Addr × Obj)) (xe : Value → Shared → Prop), Takes (X.tr pn xe) W → PassesOwn (model X.prog X.w) X.A X.env xe → PSs (X.tr pn xe) body (tb W)) :
    PS X (.Try body [.ExceptHandler (some (.Name x np)) (some n) [.Assign [.Name m p1] (.Name n p2) p3] pos'] [] [] pos) (fun D σ H => tb (wKeep X.K X.N.length c i j D) D σ H) := by
  refine ⟨fun pins s σ H D I h => ?_⟩
  have ok := I.ok
  have hfr : X.A.frames = some (X.env :: X.outer) := by rw [ok.frames, hs]
  have hiσ : i < X.N.length := (List.getElem?_eq_some_iff.mp hi).1
  refine wpAny_Try_except ?_
  refine wpAny_mono ((hb (wKeep X.K X.N.length c i j D) (X.pn ++ pins) (fun e s₁ => wpAny (model X.prog X.w) X.A (noteFrame e X.env) (fun _ s₂ => wpAny (model X.prog X.w) X.A (setFlight e none) (fun _ s₃ =>
    wpAny (model X.prog X.w) X.A (handleBy e X.env [.ExceptHandler (some (.Name x np)) (some n) [.Assign [.Name m p1] (.Name n p2) p3] pos']) (SP X pins D) X.xe s₃) X.xe s₂) X.xe s₁) (fun u s' xx => ?_) PassesOwn.looking).run [] s σ H D (I.toTry _) h) (fun f s1 hsp => ?_) (fun e s1 he => he)
  · obtain ⟨a, B, sI, pins', σ', H', cls, d, rfl, J', nb, up, sky, na, os, ag, hex, hdn, hfin⟩ := xx
    subst hdn
    have J : Inv X pins σ' H' sI := J'.ofTry ok
    have sky' : Sky B (X.env :: X.outer) a (Zc cls none) X.env.locals s'.heap := by rw [← hs]; exact sky
    show wpAny (model X.prog X.w) X.A (noteFrame (.ref a) X.env) _ _ _
    refine Sky.land Zc.steady hfr hf sky' fun h3 fl3 up3 => ?_
    have J3 : Inv X pins σ' H' { s' with heap := h3 } := J.landed nb fl3.1 (up.trans up3) os ag
    obtain ⟨oe3, vs3, he3, hz3, hd3⟩ := fl3.there
    -- it is no frame
    have nfr : a ∉ frs (X.env :: X.outer) := fun hm => by
      obtain ⟨_, o', e', hnf⟩ := fl3.2.2.1.mem hm
      rw [he3] at e'
      cases e'
      exact hnf _ hd3
    have nL : a ≠ X.env.locals := fun z => nfr (List.mem_filterMap.mpr ⟨X.env, List.mem_cons_self, by rw [hf, z]⟩)
    have nF : a ∉ X.fs := fun hm => by
      obtain ⟨e, he, q⟩ := List.mem_filterMap.mp hm
      exact nfr (List.mem_filterMap.mpr ⟨e, List.mem_cons_of_mem _ he, q⟩)
    -- it is new
    have newI : sI.heap.get? a = none := by
      cases q : sI.heap.get? a with
      | none => rfl
      | some o =>
        have := nb a o q (by rw [hs]; exact nfr)
        rw [fl3.2.1] at this
        cases this
    have new0 : X.s_0.heap.get? a = none := by
      cases q : X.s_0.heap.get? a with
      | none => rfl
      | some o =>
        obtain ⟨o', q'⟩ := J.base.there a o q (by rw [hex0]; simp)
        rw [newI] at q'
        cases q'
    have npin : ∀ p ∈ X.pn ++ pins, p.1 ≠ a := fun p hp z => by
      have := (J.pin p hp).1
      rw [z, newI] at this
      cases this
    have S3 := J3.suite he3 hd3 na nL nF
    refine wpAny_handleBy_cons (codeAny_handlers_test ?_) (by intro q; cases q)
    have LT : PySem.W.Looks (model X.prog X.w) h3 (typeOf (.ref a)) cls := fun A Q E s k q => wpAny_typeOf_ref (k _ _ he3) (by rw [hz3.1]; exact q)
    have LM := PySem.W.exm_one (M := model X.prog X.w) (J3.kIn) LT hex
    have test : ∀ {Q : Value → Shared → Prop} {E : Value → Shared → Prop}, Q c { s' with heap := h3 } → wpAny (model X.prog X.w) (X.A.mark (some (.ref a))) (eval (.Name x np) X.env) Q E { s' with heap := h3 } := fun {Q E} q => by
      obtain ⟨hg, hdbg, hm | ⟨hm, hv, hnn⟩⟩ := hc
      · exact ld_glob (X := X.suite a ((a, oe3) :: (X.pn ++ pins))) S3 hg hm q hdbg
      · exact ld_blt (X := X.suite a ((a, oe3) :: (X.pn ++ pins))) S3 hg hm hv q hnn hdbg
    refine test (LM.here ?_)
    refine codeAny_handlers_suite_as ?_
    refine HandSPX.lands_againZ fl3 fun h4 fl4 up4 => ?_
    have J4 : Inv X pins σ' H' { s' with heap := h4 } := J.landed nb fl4.1 ((up.trans up3).trans up4) os ag
    obtain ⟨oe4, vs4, he4, hz4, hd4⟩ := fl4.there
    have S4 := J4.suite he4 hd4 na nL nF
    refine store_ok (X := X.suite a ((a, oe4) :: (X.pn ++ pins))) (v := .ref a) S4 hN hi (.inl hln) rfl (fun s5 S5 => ?_) (.inr hln)
    -- the suite: m = n
    have su : PSs (X.suite a ((a, oe4) :: (X.pn ++ pins))) [.Assign [.Name m p1] (.Name n p2) p3] (fun D σ H => tVar i σ H fun v H1 => D.nx (σ.set j (some v)) H1) :=
      PSs.imp (pss_cons (ps_set (X := X.suite a ((a, oe4) :: (X.pn ++ pins))) hN hj (.inl hlm) (pe_var (X := X.suite a ((a, oe4) :: (X.pn ++ pins))) hi hvn hd1 hd2) hsw (.inr hlm)) pss_nil) fun D σ H h => h
    have hget : (σ'.set i (some (V.ref a)))[i]? = some (some (V.ref a)) := by
      rw [List.getElem?_set_self (by rw [J.len]; exact hiσ)]
    refine wpAny_mono (su.run [] s5 _ H' { nx := fun σ6 H6 => σ6 = (σ'.set i (some (.ref a))).set j (some (.ref a)) ∧ H6 = H', rt := fun _ _ => False } S5 ⟨_, hget, rfl, rfl⟩) (fun f s6 hsp => ?_) (fun _ _ z => False.elim z)
    cases f with
    | next =>
      obtain ⟨σ6, H6, S6, rfl, rfl⟩ := hsp
      have hp := S6.pin (a, oe4) (List.mem_append.mpr (.inl List.mem_cons_self))
      have J6 : Inv X pins _ _ s6 := S6.unsuite ok
      have J7 := Inv.track J6 hp.1 hz4 hd4 na new0 nL npin
      exact gone_ok J7 hN hi hln fun s7 J8 => ⟨_, _, J8, hfin J.len a na⟩
    | brk => obtain ⟨_, _, _, z⟩ := hsp; exact z.elim
    | cont => obtain ⟨_, _, _, z⟩ := hsp; exact z.elim
    | ret u => obtain ⟨_, _, _, _, _, z⟩ := hsp; exact z.elim
  · cases f with
    | next =>
      obtain ⟨σ', H', J', q⟩ := hsp
      exact wpAny_execs_nil ⟨σ', H', J'.ofTry ok, q⟩
    | brk =>
      obtain ⟨σ', H', J', q⟩ := hsp
      exact ⟨σ', H', J'.ofTry ok, q⟩
    | cont =>
      obtain ⟨σ', H', J', q⟩ := hsp
      exact ⟨σ', H', J'.ofTry ok, q⟩
    | ret u =>
      obtain ⟨v, σ', H', J', r, q⟩ := hsp
      exact ⟨v, σ', H', J'.ofTry ok, r, q⟩
end
end DL

/-! DLG: isinstance of a kept error; a def that names it -/
namespace DL
open PySem PySem.Spec PyProof.Rows L2
/-- isinstance(x, c), x a kept error -/
def rIsX (K : PySem.W.Frag) : List V → Hp → VK → Prop := fun xs H Q => ∃ (a D : Addr) (c : V) (cv : Value) (b : Bool), xs = [.ref a, c] ∧ H a = some (XO (.ref D) a) ∧ L2.ExcC K D ∧ ClsV c cv ∧ PySem.W.kitOne K (.ref D) cv = some b ∧ Q (.bl b) H
theorem call_isX {X : Cx} : CallR X (.builtin "isinstance") (rIsX X.K) := by
  intro pins s σ H xs us Q I r h
  obtain ⟨a, D, c, cv, b, rfl, ha, C, hcv, e, q⟩ := h
  cases r with
  | cons rx rr =>
    cases rr with
    | cons rt rr =>
      cases rr
      cases rx
      have ec := hcv.eq rt
      subst ec
      obtain ⟨⟨oe, vs, hget, hz, hv⟩, _⟩ := I.hok a _ ha
      have J : PySem.W.InstAt s.heap a oe D none := by
        obtain ⟨oc, od, oda, osl⟩ := oe
        obtain ⟨h1, h2⟩ := hz
        dsimp only at h1 h2 hv
        subst h1 h2 hv
        exact ⟨hget, rfl, rfl, trivial⟩
      exact PySem.W.kia_one (PySem.W.handS_kitx_exc C.hg C.hk C.hs C.hd C.ha C.hn C.ht C.hm) I.kIn J e (fun z => nomatch z) fun tk => ⟨.bl b, H, I.kept (t' := tk) fun _ _ z => z, rfl, q⟩
/-- what is known of the five classes; alarm: their common one -/
structure ErrK (K : PySem.W.Frag) (mg : Str → Option Value) (cls : Nat → Addr) : Prop where
  ec : ∀ c, c < 5 → L2.ExcC K (cls c)
  kit : ∀ c j, c < 5 → j < 5 → PySem.W.kitOne K (.ref (cls c)) (.ref (cls j)) = some (decide (c = j))
  al : ∃ al, mg "AlarmError" = some (.ref al) ∧ ∀ c, c < 5 → PySem.W.kitOne K (.ref (cls c)) (.ref al) = some true ∧ PySem.W.exmOne K (.ref (cls c)) (.ref al) = some true
  ve : ∀ c, c < 5 → PySem.W.kitOne K (.ref (cls c)) (.type "ValueError") = some true
  nve : mg "ValueError" = none
/-- the world of a def with a kept error at a: the state is the number of its class -/
def Wx (cls : Nat → Addr) (a : Addr) : Wd where
  d := Nat
  fp := fun b => b = a
  rep := fun c _ H => H a = some (XO (.ref (cls c)) a) ∧ c < 5
  tk := fun _ => .ref a
  cls := cls
  keep := fun h _ k => ⟨k _ _ rfl h.1, h.2⟩
def isTok : PD → Bool
  | .dict [(.int (.ofNat _), .none)] => true
  | _ => false
/-- isinstance(x, class) of the token: f tells by the number -/
def cIsE (f : Nat → Bool) (a : Env → Nat → R (PD × Nat)) : Env → Nat → R (PD × Nat) := fun ρ s => bnd (a ρ s) fun x s1 => if isTok x = true then .ok (.bool (f s1), s1) else .bad
section
variable {X : Cx} {O : List Nat} {cls : Nat → Addr} {a0 : Addr} {G0 H0 : Hp} {E : XK}
theorem isTok_some {d : PD} (h : isTok d = true) : ∃ n, d = tokD n := by
  unfold isTok at h
  split at h
  · exact ⟨_, rfl⟩
  · cases h
theorem rp_tok {tk : Nat → V} {G : Hp} {v : V} {d : PD} (r : Rp tk G v d) (h : isTok d = true) : ∃ n, v = tk n := by
  obtain ⟨n, rfl⟩ := isTok_some h
  rcases r with r | ⟨k, e, q⟩
  · cases r
  · exact ⟨k, q⟩
theorem de_isE {f : Nat → Bool} {x : Str} {cv : V} {cu : Value} {a : Expr} {fa : Env → Nat → R (PD × Nat)} {p p2 pos : Pos} (K5 : ∀ c, c < 5 → L2.ExcC X.K (cls c) ∧ PySem.W.kitOne X.K (.ref (cls c)) cu = some (f c)) (hcl : ClsV cv cu) (hm : X.mg "isinstance" = none) (hx : PE X (.Name x p2) (tC cv)) (ha : DE X ⟨Wx cls a0, G0, H0, E⟩ O a fa) (hg : Gl X "isinstance" := by rfl)
    (hv : bootBuiltins "isinstance" = some (.builtin "isinstance") := by decide +kernel) (he : starEach [a, .Name x p2] X.env = (false, eval a X.env) :: starEach [.Name x p2] X.env := by rfl)
    (hpl : (backTo pos (starEach [.Name x p2] X.env)).any (·.1) = false := by rfl) : DE X ⟨Wx cls a0, G0, H0, E⟩ O (.Call (.Name "isinstance" p) [a, .Name x p2] [] pos) (cIsE f fa) :=
  PE.imp (pe_callB call_isX hg hm hv (pa_cons ha (pa_cons hx pa_nil) he) (by decide) (by decide) he hpl) fun σ H Q h => by
    obtain ⟨G, ρ, s, a, p⟩ := h
    refine rdE.then a p fun v G1 H1 dx s1 a1 g1 rx p1 => ?_
    by_cases hd : isTok dx = true
    · rw [if_pos hd] at p1
      obtain ⟨n, e⟩ := rp_tok rx hd
      have hr := a1.sit.rep
      obtain ⟨k1, k2⟩ := K5 s1 hr.2
      exact ⟨a0, cls s1, cv, cu, f s1, by rw [e]; rfl, hr.1, k1, hcl, k2, p1.done a1.sit (.inl (.bl _))⟩
    · rw [if_neg hd] at p1; exact p1.elim
end
/-- the promise of a def that names a kept error -/
def spX (cls : Nat → Addr) (nm : Nat → Str) : Sp := fun vs H Q _ => ∃ (a : Addr) (c : Nat), vs = [.ref a] ∧ c < 5 ∧ H a = some (XO (.ref (cls c)) a) ∧ ∀ H', (∀ b o, b ≠ a → H b = some o → H' b = some o) → (∀ b, H' b = none → H b = none) → Q (.str (nm c)) H'
section
variable {P : Program} {w : World} {K : PySem.W.Frag} {mg : Str → Option Value} {base : Heap} {x qual : Str} {params : Arguments} {body : List Stmt} {scope : Scope} {f : Addr} {fd : FuncData} {cls : Nat → Addr}
/-- A DEF THAT NAMES A KEPT ERROR, by its body -/
theorem fn_err {N ps : List Str} {k : Nat} {nm : Nat → Str} {fb : Env → Nat → R (Fl × Nat)} (F : FunD K x qual params body scope [] [] f fd) (S : FnScope N ps scope) (hn : ps.length = 1)
    (hbody : ∀ (cdv : Value) (A : Around) (outer : List PySem.Env) (s : Shared) (H : Hp) (E : XK) (a : Addr) (G : Hp), Room k (A.deeper (envOfC qual scope s.heap.objs.size f cdv)) →
      DSs (cxOf (L2.CX P w) P w K mg base N qual scope f cdv A outer s H E) ⟨Wx cls a, G, H, E0⟩ [] [] body fb)
    (hfb : ∀ c, c < 5 → ∃ s', fb (some (tokD 0) :: List.replicate (N.length - 1) none) c = .ok (.rt (.str (nm c)), s')) : FnOk P w K mg base (L2.CX P w) (k + 1) f fd ps (spX cls nm) := by
  refine F.ok S (fun vs H Q E h => ?_) (fun cdv A outer s H vs Q E hr h => ?_)
  · obtain ⟨a, c, rfl, _⟩ := h
    rw [hn]; rfl
  · obtain ⟨a, c, rfl, hc, ha, q⟩ := h
    let G : Hp := fun _ => none
    have sit : Sit (Wx cls a) G H c := by
      refine ⟨fun b o z => (by cases (show (none : Option HO) = some o from z)), fun _ _ => rfl, fun b e z => ?_, ⟨ha, hc⟩⟩
      rw [show b = a from e, ha] at z
      cases z
    have r : RpAll (Wx cls a).tk G [V.ref a] [tokD 0] := .cons (.inr ⟨0, rfl, rfl⟩) .nil
    refine ⟨_, hbody cdv A outer s H E a G hr, G, startD N [tokD 0], c, ⟨sit, .refl, r.begin_ N⟩, ?_⟩
    obtain ⟨s', e⟩ := hfb c hc
    have e0 : startD N [tokD 0] = some (tokD 0) :: List.replicate (N.length - 1) none := rfl
    rw [e0, e]
    intro v G' H' g st rv
    have hv : v = .str (nm c) := by
      rcases rv with rv | ⟨n, e, _⟩
      · cases rv; rfl
      · cases e
    rw [hv]
    exact q H' (fun b o hb hbo => g.h b o (fun z => hb z) hbo) g.dom
end
end DL

/-! DLH: try: .. except AlarmError as e: caught = e; return .. if caught is None else _law_error(caught) -/
namespace DL
open PySem PySem.Spec PyProof.Rows L2
def sTry {d : Type} (fb : Env → d → R (Fl × d)) (j : Nat) (fe : Env → d → R (PD × d)) (nm : Nat → Str) : Env → d → R (Fl × d) := fun ρ s => match fb ρ s with
  | .ok (.nx ρ', s') => match ρ'[j]? with
    | some (some .none) => bnd (fe ρ' s') fun v s2 => .ok (.rt v, s2)
    | _ => .bad
  | .exc c => if c < 5 then .ok (.rt (.str (nm c)), s) else .bad
  | _ => .bad
section
variable {X : Cx} {cls : Nat → Addr} {tk : Nat → V} {G0 H0 : Hp} {E : XK}
theorem dss_try {body : List Stmt} {e1 : Expr} {fb : Env → Unit → R (Fl × Unit)} {fe : Env → Unit → R (PD × Unit)} {nm : Nat → Str} {i j k : Nat} {f : Addr} {fd : FuncData} {ps : List Str} {al : Addr} {np p1 p2 p3 p4 p5 p6 p7 p8 pos pos' posr posi : Pos} {cst : Expr}
    (sb0 : Sub G0 H0) (hex0 : X.ex = []) (hs : X.stack = X.env :: X.outer) (hf : X.env.frame = some X.env.locals) (hN : X.N.Nodup) (hi : X.N[i]? = some ("e" : Str)) (hj : X.N[j]? = some ("caught" : Str)) (hij : i ≠ j) (hln : X.env.kindOf "e" = some .local) (hlm : X.env.scope.names.lookup ("caught" : Str) = some .local)
    (hal : X.mg "AlarmError" = some (.ref al)) (hgl : Gl X "AlarmError") (hexm : ∀ c, c < 5 → PySem.W.exmOne X.K (.ref (cls c)) (.ref al) = some true) (hsw : swapsWith (.Name "e" p2) (some (.Name "caught" p1)) p3.line X.env = pure false)
    (hb : ∀ (pn : List (Addr × Obj)) (xe : Value → Shared → Prop) (E' : XK), Takes (X.tr pn xe) (fun c d _ H => E' c d H) → PassesOwn (model X.prog X.w) X.A X.env xe → DSs (X.tr pn xe) ⟨Wp cls tk, G0, H0, E'⟩ [] [] body fb)
    (he : DE X ⟨Wp cls tk, G0, H0, E⟩ [] e1 fe) (F : FnOk X.prog X.w X.K X.mg X.base (L2.CX X.prog X.w) k f fd ps (spX cls nm)) (hr : Room k X.A) (hmE : X.mg "_law_error" = some (.ref f)) (hk : PySem.W.keepIn X.K (.ref f) = true) (hbd : Binds X.K fd ps []) (hgE : Gl X "_law_error")
    (hpn : PE X cst (tC .non)) (hmk : behindInMarks .Is cst = false) (hst : starEach [.Name "caught" p5] X.env = (false, eval (.Name "caught" p5) X.env) :: starEach [] X.env) (hpl : (backTo p6 (starEach [] X.env)).any (·.1) = false) :
    DSs X ⟨Wp cls tk, G0, H0, E⟩ [] [] [.Try body [.ExceptHandler (some (.Name "AlarmError" np)) (some "e") [.Assign [.Name "caught" p1] (.Name "e" p2) p3] pos'] [] [] pos, .Return (some (.IfExp (.Compare (.Name "caught" p4) [.Is] [cst] p8) e1 (.Call (.Name "_law_error" p7) [.Name "caught" p5] [] p6) posi)) posr] (sTry fb j fe nm) := by
  have hv : Vis X.env.scope "caught" := .inl hlm
  have pc : ∀ {p : Pos}, PE X (.Name "caught" p) (tVar j) := fun {p} => pe_var hj hv
  have ret := ps_ret (pos := posr) (pe_ifExp (pos := posi) (pt_cmpR (pos := p8) op_isN (pc (p := p4)) hpn hmk) he (pe_call (p := p7) F hr hgE hmE hk hbd .nil passL (pa_cons (pc (p := p5)) pa_nil hst) (by decide) hst hpl))
  have trY := ps_try_keep (X := X) (body := body) (tb := fun W => rdS ⟨Wp cls tk, G0, H0, fun c d H => ∀ σ, W c d σ H⟩ [] [] fb) (np := np) (p1 := p1) (p2 := p2) (p3 := p3) (pos := pos) (pos' := pos') (c := .ref al) (x := "AlarmError") hex0 hs hf hN hi hj hln hlm ⟨hgl, by decide, .inl hal⟩ (.inl hln) (by decide) (by decide) hsw
    fun W pn xe tk' po => hb pn xe _ (tk'.imp fun c d σ H h => h σ) po
  refine PSs.imp (pss_cons trY (pss_cons ret pss_nil)) fun D σ H h => ?_
  obtain ⟨G, ρ, s, a, p⟩ := h
  refine ⟨G, ρ, s, ⟨a.sit, a.gr, a.rs⟩, ?_⟩
  unfold sTry at p
  revert p
  cases fb ρ s with
  | bad => exact fun p => p
  | exc c =>
    intro p
    dsimp only at p
    by_cases hc : c < 5
    · rw [if_pos hc] at p
      intro G' H' g σ'
      refine ⟨hexm c hc, rfl, fun hlen b hb' => ?_⟩
      have hjl : j < σ'.length := by rw [hlen]; exact (List.getElem?_eq_some_iff.mp hj).1
      have hget : (((σ'.set i (some (V.ref b))).set j (some (V.ref b))).set i none)[j]? = some (some (V.ref b)) := by
        rw [List.getElem?_set_ne hij, List.getElem?_set_self (by rw [List.length_set]; exact hjl)]
      refine ⟨V.ref b, hget, rfl, decide (V.ref b = V.non), rfl, ?_⟩
      dsimp only
      rw [if_neg (by simp)]
      refine ⟨V.ref b, hget, b, c, rfl, hc, upd_same, fun H2 k1 k2 => ?_⟩
      have hne : ∀ x o, H' x = some o → x ≠ b := fun x o hx z => by rw [z, hb'] at hx; cases hx
      refine p (.str (nm c)) G0 H2 ⟨fun _ _ z => z, fun x o hfp hx => ?_, fun x hx => ?_, fun x o z => .inl z⟩ ⟨fun x o z => ?_, fun _ z => z.elim, fun _ z => z.elim, trivial⟩ (.inl (.str _))
      · have h1 := g.h x o hfp hx
        exact k1 x o (hne x o h1) (by rw [upd_ne (hne x o h1)]; exact h1)
      · have h1 := k2 x hx
        have h2 : x ≠ b := fun z => by rw [z, upd_same] at h1; cases h1
        rw [upd_ne h2] at h1
        exact g.dom x h1
      · have h0 := sb0 x o z
        have h1 := g.h x o (fun z => z) h0
        exact k1 x o (hne x o h1) (by rw [upd_ne (hne x o h1)]; exact h1)
    · rw [if_neg hc] at p; exact p.elim
  | ok y =>
    obtain ⟨fl, s'⟩ := y
    cases fl with
    | nx ρ' =>
      intro p σ' G' H' a'
      dsimp only at p
      cases hρ : ρ'[j]? with
      | none => rw [hρ] at p; exact p.elim
      | some o =>
        cases o with
        | none => rw [hρ] at p; exact p.elim
        | some d =>
          cases d with
          | none =>
            rw [hρ] at p
            dsimp only at p
            obtain ⟨v, hv1, hv2⟩ := a'.rs.plain j .none hρ (by simp)
            have hvn : v = .non := by
              rcases hv2 with r | ⟨n, e, _⟩
              · cases r; rfl
              · cases e
            subst hvn
            refine ⟨V.non, hv1, rfl, decide (V.non = V.non), rfl, ?_⟩
            dsimp only
            rw [if_pos (by simp)]
            refine ⟨G', ρ', s', ⟨a'.sit, a'.gr, a'.rs⟩, ?_⟩
            revert p
            cases fe ρ' s' with
            | ok z =>
              intro p v2 G2 H2 g2 S2 r2
              exact p v2 G2 H2 (a'.gr.trans g2) S2 r2
            | exc c => exact fun p G2 H2 g2 => p G2 H2 (a'.gr.trans g2)
            | bad => exact fun p => p
          | _ => rw [hρ] at p; exact p.elim
    | _ => exact fun p => p.elim
end
end DL

/-! DLI: list.index; a pure def whose ground is known; sorted lists of pairs -/
namespace DL
open PySem PySem.Spec PyProof.Rows L2
section
variable {X : Cx} {B : Bs} {O O' : List Nat}
def pIndex : PD → PD → R PD
  | .list ds, d => if SeqAt.shaped (.list ds) && SeqAt.shaped d then match ds.findIdx? fun z => PyData.eqv z d with
    | some j => .ok (.int (j : Nat))
    | none => .bad
    else .bad
  | _, _ => .bad
theorem dm_index (hu : X.A.units + 65 < cLine) : MtR X "list.index" (rdM pIndex) := by
  refine MtR.by fun x vs H Q h => ?_
  obtain ⟨y, rfl, G, d, e, sb, rx, ry, p⟩ := h
  cases d with
  | list ds =>
    unfold pIndex at p
    dsimp only at p
    split at p
    · rename_i hsh
      rw [Bool.and_eq_true] at hsh
      split at p
      · rename_i j hj
        obtain ⟨a, us, rfl, ga, da⟩ := rx.of_lst
        have h1 := List.findIdx?_eq_some_iff_getElem.mp hj
        obtain ⟨hlt, hz, hno⟩ := h1
        refine ⟨_, mt_indexD hu, a, y, _, ds, j, ds[j], rfl, rfl, rx.dp sb, ry.dp sb, hsh.1, hsh.2, List.getElem?_eq_getElem hlt, hz, fun m z' hm hz' => ?_, p.val sb (.int _)⟩
        have hml : m < ds.length := by omega
        rw [List.getElem?_eq_getElem hml] at hz'
        cases hz'
        have := hno m hm
        simpa using this
      · exact p.elim
    · exact p.elim
  | _ => exact p.elim
end
section
variable {P : Program} {w : World} {K : PySem.W.Frag} {mg : Str → Option Value} {base : Heap} {x qual : Str} {params : Arguments} {body : List Stmt} {scope : Scope} {f : Addr} {fd : FuncData} {cls : Nat → Addr}
/-- a pure def by its body, its ground known -/
theorem fn_pureT {N ps : List Str} {k n : Nat} {fb : Env → Unit → R (Fl × Unit)} (F : FunD K x qual params body scope [] [] f fd) (S : FnScope N ps scope) (hm : mg x = some (.ref f)) (hn : ps.length = n) (hb : Binds K fd ps [])
    (hbody : ∀ (cdv : Value) (A : Around) (outer : List PySem.Env) (s : Shared) (H : Hp) (E : XK) (tk : Nat → V) (G : Hp), Sub G H → Room k (A.deeper (envOfC qual scope s.heap.objs.size f cdv)) →
      DSs (cxOf (L2.CX P w) P w K mg base N qual scope f cdv A outer s H E) ⟨Wp cls tk, G, H, E⟩ [] [] body fb) : FnP P w K mg base cls (k + 1) x n (mBody (N.length - n) fb) := by
  refine ⟨f, fd, ps, F.ok S (fun vs H Q E h => ?_) (fun cdv A outer s H vs Q E hr h => ?_), hm, F.kp, hb⟩
  · obtain ⟨tk, G, ds, _, r, hl, _⟩ := h
    rw [r.len, hl, hn]
  · obtain ⟨tk, G, ds, sb, r, hl, p⟩ := h
    refine ⟨_, hbody cdv A outer s H E tk G sb hr, G, startD N ds, (), ⟨⟨sb, fun _ z => z.elim, fun _ z => z.elim, trivial⟩, .refl, r.begin_ N⟩, ?_⟩
    unfold mBody at p
    have e0 : startD N ds = ds.map some ++ List.replicate (N.length - n) none := by unfold startD; rw [hl]
    rw [e0]
    revert p
    generalize fb (ds.map some ++ List.replicate (N.length - n) none) () = r'
    intro p
    cases r' with
    | bad => exact p
    | exc c => exact fun G' H' g => p G' H' g
    | ok y =>
      obtain ⟨fl, u⟩ := y
      cases fl with
      | nx ρ => exact fun σ' G' H' a => p .non G' H' a.gr a.sit.sub (.inl .non)
      | rt d => exact fun v G' H' g st rv => p v G' H' g st.sub rv
      | bk ρ => exact p.elim
      | ct ρ => exact p.elim
end
end DL

/-! DLJ: sorted lists of pairs -/
namespace DL
open PySem PySem.Spec PyProof.Rows L2
def pD (p : Int × Int) : PD := .tuple [.int p.1, .int p.2]
def toPairs : List PD → Option (List (Int × Int))
  | [] => some []
  | .tuple [.int a, .int b] :: r => match toPairs r with
    | some ps => some ((a, b) :: ps)
    | none => none
  | _ => none
theorem toPairs_eq : ∀ {xs : List PD} {ps : List (Int × Int)}, toPairs xs = some ps → xs = ps.map pD
  | [], ps, h => by cases h; rfl
  | x :: r, ps, h => by
    unfold toPairs at h
    split at h
    · cases h
      rename_i e
      cases e
    · rename_i e
      split at h
      · rename_i q hq
        cases h
        cases e
        rw [toPairs_eq hq]
        rfl
      · cases h
    · cases h
theorem toPairs_map : ∀ ps : List (Int × Int), toPairs (ps.map pD) = some ps
  | [] => rfl
  | p :: ps => by
    show (match toPairs (ps.map pD) with | some q => some ((p.1, p.2) :: q) | none => none) = _
    rw [toPairs_map ps]
def lexLe (p q : Int × Int) : Bool := decide (p.1 < q.1) || (decide (p.1 = q.1) && decide (p.2 ≤ q.2))
def insP (k : Int × Int) : List (Int × Int) → List (Int × Int)
  | [] => [k]
  | x :: r => if lexLe k x = true then k :: x :: r else x :: insP k r
def sortP : List (Int × Int) → List (Int × Int)
  | [] => []
  | x :: r => insP x (sortP r)
def LexLe (p q : Int × Int) : Prop := p.1 < q.1 ∨ (p.1 = q.1 ∧ p.2 ≤ q.2)
theorem lexLe_iff {p q : Int × Int} : lexLe p q = true ↔ LexLe p q := by
  unfold lexLe LexLe
  simp
theorem perm_insP {k : Int × Int} : ∀ {l : List (Int × Int)}, (insP k l).Perm (k :: l)
  | [] => .refl _
  | x :: r => by
    unfold insP
    split
    · exact .refl _
    · exact ((perm_insP (l := r)).cons x).trans (List.Perm.swap k x r)
theorem perm_sortP : ∀ {l : List (Int × Int)}, (sortP l).Perm l
  | [] => .refl _
  | x :: r => by
    unfold sortP
    exact perm_insP.trans (perm_sortP.cons x)
theorem LexLe.trans {p q r : Int × Int} (h : LexLe p q) (k : LexLe q r) : LexLe p r := by
  unfold LexLe at *
  omega
theorem LexLe.total {p q : Int × Int} (h : ¬ LexLe p q) : LexLe q p := by
  unfold LexLe at *
  omega
theorem LexLe.anti {p q : Int × Int} (h : LexLe p q) (k : LexLe q p) : p = q := by
  unfold LexLe at *
  exact Prod.ext (by omega) (by omega)
theorem le_insP {k : Int × Int} : ∀ {l : List (Int × Int)}, l.Pairwise LexLe → (insP k l).Pairwise LexLe
  | [], _ => by simp [insP]
  | x :: r, h => by
    have h' := List.pairwise_cons.mp h
    unfold insP
    split
    · rename_i hk
      refine List.pairwise_cons.mpr ⟨fun y hy => ?_, h⟩
      rcases List.mem_cons.mp hy with z | z
      · rw [z]; exact lexLe_iff.mp hk
      · exact (lexLe_iff.mp hk).trans (h'.1 y z)
    · rename_i hk
      refine List.pairwise_cons.mpr ⟨fun y hy => ?_, le_insP h'.2⟩
      rcases List.mem_cons.mp (perm_insP.mem_iff.mp hy) with z | z
      · rw [z]; exact LexLe.total fun q => hk (lexLe_iff.mpr q)
      · exact h'.1 y z
theorem le_sortP : ∀ {l : List (Int × Int)}, (sortP l).Pairwise LexLe
  | [] => .nil
  | x :: r => le_insP le_sortP
theorem perm_pairs_eq {l m : List (Int × Int)} (h : l.Perm m) (a : l.Pairwise LexLe) (b : m.Pairwise LexLe) : l = m := List.Perm.eq_of_pairwise (fun x y _ _ h1 h2 => h1.anti h2) a b h
def kOf (H : Hp) (x : V) : Int × Int := match x with
  | .ref t => match H t with
    | some (.tup [.int a, .int b]) => (a, b)
    | _ => (0, 0)
  | _ => (0, 0)
theorem pairs_of {G H : Hp} (sb : Sub G H) : ∀ {xs : List V} {ps : List (Int × Int)}, DgAll G xs (ps.map pD) → xs.map (kOf H) = ps ∧ ∀ x ∈ xs, ∃ t, x = V.ref t ∧ H t = some (.tup [.int (kOf H x).1, .int (kOf H x).2]) ∧ Dg G x (pD (kOf H x))
  | [], [], _ => ⟨rfl, fun x h => by cases h⟩
  | [], _ :: _, h => by cases h
  | _ :: _, [], h => by cases h
  | x :: xs, p :: ps, h => by
    cases h with
    | cons hx hr =>
      obtain ⟨e, q⟩ := pairs_of sb hr
      have hx0 := hx
      cases hx with
      | tup ga da =>
        rename_i t vs
        cases da with
        | cons h1 da =>
          cases da with
          | cons h2 da =>
            cases da
            cases h1
            cases h2
            have hH := sb _ _ ga
            have hk : kOf H (V.ref t) = p := by
              unfold kOf
              dsimp only
              rw [hH]
            refine ⟨by rw [List.map_cons, hk, e], fun y hy => ?_⟩
            rcases List.mem_cons.mp hy with z | z
            · subst z
              rw [hk]
              exact ⟨t, rfl, hH, hx0⟩
            · exact q y z
section
variable {X : Cx} {B : Bs} {O O' : List Nat}
def pSortedP : List PD → R PD
  | [.list xs] => match toPairs xs with
    | some ps => .ok (.list ((sortP ps).map pD))
    | none => .bad
  | _ => .bad
theorem dgAll_of {G : Hp} {f : V → PD} : ∀ {ys : List V}, (∀ y ∈ ys, Dg G y (f y)) → DgAll G ys (ys.map f)
  | [], _ => .nil
  | y :: ys, h => .cons (h y (by simp)) (dgAll_of fun z hz => h z (List.mem_cons_of_mem _ hz))
theorem dc_sortedP : CallR X (.builtin "sorted") (rdC pSortedP) := by
  refine CallR.by fun vs H Q h => ?_
  obtain ⟨G, ds, sb, rs, p⟩ := h
  unfold pSortedP at p
  split at p
  · obtain ⟨v, rfl, rv⟩ := rs.one
    obtain ⟨a, xs, rfl, ga, da⟩ := rv.of_lst
    split at p
    · rename_i ps e
      rw [toPairs_eq e] at da
      obtain ⟨ek, hk⟩ := pairs_of sb da
      refine ⟨_, cr_sortedPO, a, xs, kOf H, rfl, SqL.of (sb _ _ ga), fun x hx => ?_, fun ys q hs hst hq => ?_⟩
      · obtain ⟨t, h1, h2, _⟩ := hk x hx
        exact ⟨t, h1, h2⟩
      · have hys : ∀ y ∈ ys, Dg G y (pD (kOf H y)) := fun y hy => by
          obtain ⟨_, _, _, h3⟩ := hk y (hst.perm.mem_iff.mp hy)
          exact h3
        have em : ys.map (kOf H) = sortP ps := by
          refine perm_pairs_eq ?_ ?_ le_sortP
          · rw [← ek]
            exact (hst.perm.map _).trans perm_sortP.symm
          · rw [List.pairwise_map]
            refine List.Pairwise.imp (fun {u v} huv => ?_) hs
            have := SrtO.lexB_no.mp huv
            unfold LexLe
            omega
        have hd := dgAll_of (f := fun y => pD (kOf H y)) hys
        have e2 : ys.map (fun y => pD (kOf H y)) = (sortP ps).map pD := by
          rw [← em, List.map_map]; rfl
        rw [e2] at hd
        exact p.lst sb hd hq
    · exact p.elim
  · exact p.elim
end
end DL

/-! DLK: what is asked of the written part about the error classes -/
namespace DL
open PySem PySem.Spec PyProof.Rows L2
def excCB (K : PySem.W.Frag) (D : Addr) : Bool :=
  He.eqO (PySem.W.findIn K (.ref D) "__getattribute__") (some (some (.builtin "BaseException.__getattribute__"))) &&
  (He.eqO (PySem.W.findIn K (.ref D) "__getattr__") (some none) &&
  (decide (PySem.W.subIn K (.ref D) (.type "BaseException") = some true) &&
  (PySem.W.hasDictIn K D &&
  (He.eqO (PySem.W.findIn K (.ref D) "__class__") (some (some (.builtin "object.__class__"))) &&
  (He.eqO (PySem.W.specialIn K (.builtin "object.__class__") "__get__") (some (some (.builtin "getset_descriptor.__get__"))) &&
  (decide (PySem.W.takesIn K (.builtin "object.__class__") = some true) &&
  decide (PySem.W.mroIn K D (.type "object") = some true)))))))
theorem excCB_ok {K : PySem.W.Frag} {D : Addr} (h : excCB K D = true) : L2.ExcC K D := by
  unfold excCB at h
  simp only [Bool.and_eq_true, decide_eq_true_eq] at h
  obtain ⟨h1, h2, h3, h4, h5, h6, h7, h8⟩ := h
  exact ⟨He.eqO_ok h1, He.eqO_ok h2, h3, h4, He.eqO_ok h5, He.eqO_ok h6, h7, h8⟩
def errB (K : PySem.W.Frag) : Bool := (List.range 5).all fun c => excCB K (clsK K c) &&
  (((List.range 5).all fun j => decide (PySem.W.kitOne K (.ref (clsK K c)) (.ref (clsK K j)) = some (decide (c = j)))) &&
  (decide (PySem.W.kitOne K (.ref (clsK K c)) (.ref (He.ga K "AlarmError")) = some true) &&
  (decide (PySem.W.exmOne K (.ref (clsK K c)) (.ref (He.ga K "AlarmError")) = some true) &&
  decide (PySem.W.kitOne K (.ref (clsK K c)) (.type "ValueError") = some true))))
theorem errK_mk {K : PySem.W.Frag} {h : Heap} {mg : Str → Option Value} (X : K.In h) (G : h.Ns mainGlobals mg) (b : errB K = true) (h1 : (He.Fa.glo "AlarmError").ok K = true) (h2 : (He.Fa.free "ValueError").ok K = true) : ErrK K mg (clsK K) := by
  have key : ∀ c, c < 5 → excCB K (clsK K c) = true ∧ (∀ j, j < 5 → PySem.W.kitOne K (.ref (clsK K c)) (.ref (clsK K j)) = some (decide (c = j))) ∧ PySem.W.kitOne K (.ref (clsK K c)) (.ref (He.ga K "AlarmError")) = some true ∧ PySem.W.exmOne K (.ref (clsK K c)) (.ref (He.ga K "AlarmError")) = some true ∧ PySem.W.kitOne K (.ref (clsK K c)) (.type "ValueError") = some true := fun c hc => by
    unfold errB at b
    have q := List.all_eq_true.mp b c (List.mem_range.mpr hc)
    simp only [Bool.and_eq_true, decide_eq_true_eq] at q
    obtain ⟨q1, q2, q3, q4, q5⟩ := q
    refine ⟨q1, fun j hj => ?_, q3, q4, q5⟩
    have := List.all_eq_true.mp q2 j (List.mem_range.mpr hj)
    simpa using this
  exact ⟨fun c hc => excCB_ok (key c hc).1, fun c j hc hj => (key c hc).2.1 j hj, ⟨_, He.glo_ok X G h1, fun c hc => ⟨(key c hc).2.2.1, (key c hc).2.2.2.1⟩⟩, fun c hc => (key c hc).2.2.2.2, He.free_ok X G h2⟩
def errN (c : Nat) : Str := ["things", "number", "points", "text", "none"].getD c "odd"
end DL


namespace KK
open PySem PySem.Spec PyProof.Rows L2 DL
def top (i : Nat) : Stmt := PySem.Challenge.pw_alarmcurves_k17_more_errors.main.body.getD i (.Pass ⟨0, 0, 0, 0⟩)
def fnL : List He.DefD := [⟨("is_int", none), "is_int", "is_int", defArgs (top 9), defBody (top 9), defScope (top 9), [], []⟩,
  ⟨("is_thing", none), "is_thing", "is_thing", defArgs (top 10), defBody (top 10), defScope (top 10), [], []⟩,
  ⟨("is_things", none), "is_things", "is_things", defArgs (top 11), defBody (top 11), defScope (top 11), [], []⟩,
  ⟨("check_things", none), "check_things", "check_things", defArgs (top 12), defBody (top 12), defScope (top 12), [], []⟩,
  ⟨("check_threshold", none), "check_threshold", "check_threshold", defArgs (top 13), defBody (top 13), defScope (top 13), [], []⟩,
  ⟨("is_points", none), "is_points", "is_points", defArgs (top 14), defBody (top 14), defScope (top 14), [], []⟩,
  ⟨("check_points", none), "check_points", "check_points", defArgs (top 15), defBody (top 15), defScope (top 15), [], []⟩,
  ⟨("common", none), "common", "common", defArgs (top 17), defBody (top 17), defScope (top 17), [], []⟩,
  ⟨("lowest", none), "lowest", "lowest", defArgs (top 18), defBody (top 18), defScope (top 18), [], []⟩,
  ⟨("plus", none), "plus", "plus", defArgs (top 19), defBody (top 19), defScope (top 19), [], []⟩,
  ⟨("product", none), "product", "product", defArgs (top 20), defBody (top 20), defScope (top 20), [], []⟩,
  ⟨("less", none), "less", "less", defArgs (top 21), defBody (top 21), defScope (top 21), [], []⟩,
  ⟨("is_mean", none), "is_mean", "is_mean", defArgs (top 22), defBody (top 22), defScope (top 22), [], []⟩,
  ⟨("counts", none), "counts", "counts", defArgs (top 24), defBody (top 24), defScope (top 24), [], []⟩,
  ⟨("double_area", none), "double_area", "double_area", defArgs (top 26), defBody (top 26), defScope (top 26), [], []⟩,
  ⟨("way_turn", none), "way_turn", "way_turn", defArgs (top 28), defBody (top 28), defScope (top 28), [], []⟩,
  ⟨("corners_of", none), "corners_of", "corners_of", defArgs (top 29), defBody (top 29), defScope (top 29), [], []⟩,
  ⟨("hull_of", none), "hull_of", "hull_of", defArgs (top 30), defBody (top 30), defScope (top 30), [], []⟩,
  ⟨("height_of", none), "height_of", "height_of", defArgs (top 31), defBody (top 31), defScope (top 31), [], []⟩,
  ⟨("hull_height", none), "hull_height", "hull_height", defArgs (top 32), defBody (top 32), defScope (top 32), [], []⟩,
  ⟨("check_share", none), "check_share", "check_share", defArgs (top 34), defBody (top 34), defScope (top 34), [], []⟩,
  ⟨("mean_point", none), "mean_point", "mean_point", defArgs (top 35), defBody (top 35), defScope (top 35), [], []⟩,
  ⟨("mixed_alarms", none), "mixed_alarms", "mixed_alarms", defArgs (top 36), defBody (top 36), defScope (top 36), [], []⟩,
  ⟨("check_both", none), "check_both", "check_both", defArgs (top 38), defBody (top 38), defScope (top 38), [], []⟩,
  ⟨("height", none), "height", "height", defArgs (top 39), defBody (top 39), defScope (top 39), [], []⟩,
  ⟨("height_ahead", none), "height_ahead", "height_ahead", defArgs (top 40), defBody (top 40), defScope (top 40), [], []⟩,
  ⟨("is_above", none), "is_above", "is_above", defArgs (top 41), defBody (top 41), defScope (top 41), [], []⟩,
  ⟨("first_below", none), "first_below", "first_below", defArgs (top 42), defBody (top 42), defScope (top 42), [], []⟩,
  ⟨("area_difference", none), "area_difference", "area_difference", defArgs (top 43), defBody (top 43), defScope (top 43), [], []⟩,
  ⟨("joined", none), "joined", "joined", defArgs (top 44), defBody (top 44), defScope (top 44), [], []⟩,
  ⟨("led", none), "led", "led", defArgs (top 45), defBody (top 45), defScope (top 45), [], []⟩,
  ⟨("things_with", none), "things_with", "things_with", defArgs (top 48), defBody (top 48), defScope (top 48), [], []⟩,
  ⟨("check_numbers", none), "check_numbers", "check_numbers", defArgs (top 49), defBody (top 49), defScope (top 49), [], []⟩,
  ⟨("ways_to", none), "ways_to", "ways_to", defArgs (top 50), defBody (top 50), defScope (top 50), [], []⟩,
  ⟨("all_curves", none), "all_curves", "all_curves", defArgs (top 51), defBody (top 51), defScope (top 51), [], []⟩,
  ⟨("count_curves", none), "count_curves", "count_curves", defArgs (top 52), defBody (top 52), defScope (top 52), [], []⟩,
  ⟨("curve_at", none), "curve_at", "curve_at", defArgs (top 53), defBody (top 53), defScope (top 53), [], []⟩,
  ⟨("format_points", none), "format_points", "format_points", defArgs (top 57), defBody (top 57), defScope (top 57), [], []⟩,
  ⟨("_law_start", none), "_law_start", "_law_start", defArgs (top 59), defBody (top 59), defScope (top 59), [], []⟩,
  ⟨("_law_draw", none), "_law_draw", "_law_draw", defArgs (top 60), defBody (top 60), defScope (top 60), [], []⟩,
  ⟨("_law_error", none), "_law_error", "_law_error", defArgs (top 61), defBody (top 61), defScope (top 61), [], []⟩,
  ⟨("_law_call", none), "_law_call", "_law_call", defArgs (top 62), defBody (top 62), defScope (top 62), [], []⟩,
  ⟨("_law_asked", none), "_law_asked", "_law_asked", defArgs (top 63), defBody (top 63), defScope (top 63), [], []⟩,
  ⟨("_law_watch", none), "_law_watch", "_law_watch", defArgs (top 64), defBody (top 64), defScope (top 64), [], []⟩,
  ⟨("_law_lists", none), "_law_lists", "_law_lists", defArgs (top 65), defBody (top 65), defScope (top 65), [], []⟩,
  ⟨("law", none), "law", "law", defArgs (top 66), defBody (top 66), defScope (top 66), [], []⟩,
  ⟨("Watch", some "__init__"), "__init__", "Watch.__init__", defArgs (inClass (top 55) 0), defBody (inClass (top 55) 0), defScope (inClass (top 55) 0), [], []⟩,
  ⟨("Watch", some "push"), "push", "Watch.push", defArgs (inClass (top 55) 1), defBody (inClass (top 55) 1), defScope (inClass (top 55) 1), [], []⟩,
  ⟨("Watch", some "move"), "move", "Watch.move", defArgs (inClass (top 55) 2), defBody (inClass (top 55) 2), defScope (inClass (top 55) 2), [], []⟩,
  ⟨("Watch", some "counts"), "counts", "Watch.counts", defArgs (inClass (top 55) 3), defBody (inClass (top 55) 3), defScope (inClass (top 55) 3), [], []⟩,
  ⟨("Watch", some "things"), "things", "Watch.things", defArgs (inClass (top 55) 4), defBody (inClass (top 55) 4), defScope (inClass (top 55) 4), [], []⟩,
  ⟨("Watch", some "undo"), "undo", "Watch.undo", defArgs (inClass (top 55) 5), defBody (inClass (top 55) 5), defScope (inClass (top 55) 5), [], []⟩,
  ⟨("Watch", some "__len__"), "__len__", "Watch.__len__", defArgs (inClass (top 55) 6), defBody (inClass (top 55) 6), defScope (inClass (top 55) 6), [], []⟩]
def faL : List He.Fa := [.glo "is_int", .glo "is_thing", .glo "is_things", .glo "check_things", .glo "check_threshold", .glo "is_points", .glo "check_points", .glo "common", .glo "lowest", .glo "plus", .glo "product", .glo "less", .glo "is_mean", .glo "counts", .glo "double_area", .glo "way_turn", .glo "corners_of", .glo "hull_of", .glo "height_of", .glo "hull_height", .glo "check_share", .glo "mean_point", .glo "mixed_alarms", .glo "check_both", .glo "height", .glo "height_ahead", .glo "is_above", .glo "first_below", .glo "area_difference", .glo "joined", .glo "led", .glo "things_with", .glo "check_numbers", .glo "ways_to", .glo "all_curves", .glo "count_curves", .glo "curve_at", .glo "format_points", .glo "_law_start", .glo "_law_draw", .glo "_law_error", .glo "_law_call", .glo "_law_asked", .glo "_law_watch", .glo "_law_lists", .glo "law", .glo "BadThings", .glo "BadNumber", .glo "BadPoints", .glo "BadText", .glo "NotFound", .exc "BadThings", .exc "BadNumber", .exc "BadPoints", .exc "BadText", .exc "NotFound", .int "MOST_THINGS" 12, .int "MOST_SCORE" 99, .int "MOST_EACH" 4, .glo "Watch", .cls "Watch", .noat "Watch" "threshold", .noat "Watch" "line", .mkr "Watch", .meth "Watch" "push", .meth "Watch" "move", .meth "Watch" "counts", .meth "Watch" "things", .meth "Watch" "undo", .meth "Watch" "__len__", .glo "AlarmError", .free "ValueError"] ++ freeFa
abbrev RwK : PySem.W.OpenRow := PySem.W.OpenLaw.row PySem.Challenge.rw_alarmcurves_k17_more_errors
abbrev hkK : PySem.W.Hook := He.hookX 4 faL fnL [] [] errB
def obK (s : PySem.W.SharedT) : He.AlX := He.obsX 4 faL fnL [] [] errB (HandSHeadRun.getT s)
theorem obK_eq (s : PySem.W.SharedT) : obK s = hkK.obs s.abs := He.obsX_eq (HandSHeadRun.getT_eq s)
def looseK : List PySem.Str := [("AlarmError" : PySem.Str), ("BadThings" : PySem.Str), ("BadNumber" : PySem.Str), ("BadPoints" : PySem.Str), ("BadText" : PySem.Str), ("NotFound" : PySem.Str), ("MOST_THINGS" : PySem.Str), ("MOST_SCORE" : PySem.Str), ("is_int" : PySem.Str), ("is_thing" : PySem.Str), ("is_things" : PySem.Str), ("check_things" : PySem.Str), ("check_threshold" : PySem.Str), ("is_points" : PySem.Str), ("check_points" : PySem.Str), ("common" : PySem.Str), ("lowest" : PySem.Str), ("plus" : PySem.Str), ("product" : PySem.Str), ("less" : PySem.Str), ("is_mean" : PySem.Str), ("counts" : PySem.Str), ("double_area" : PySem.Str), ("way_turn" : PySem.Str), ("corners_of" : PySem.Str), ("hull_of" : PySem.Str), ("height_of" : PySem.Str), ("hull_height" : PySem.Str), ("check_share" : PySem.Str), ("mean_point" : PySem.Str), ("mixed_alarms" : PySem.Str), ("check_both" : PySem.Str), ("height" : PySem.Str), ("height_ahead" : PySem.Str), ("is_above" : PySem.Str), ("first_below" : PySem.Str), ("area_difference" : PySem.Str), ("joined" : PySem.Str), ("led" : PySem.Str), ("MOST_EACH" : PySem.Str), ("things_with" : PySem.Str), ("check_numbers" : PySem.Str), ("ways_to" : PySem.Str), ("all_curves" : PySem.Str), ("count_curves" : PySem.Str), ("curve_at" : PySem.Str), ("Watch" : PySem.Str), ("format_points" : PySem.Str), ("_law_start" : PySem.Str), ("_law_draw" : PySem.Str), ("_law_error" : PySem.Str), ("_law_call" : PySem.Str), ("_law_asked" : PySem.Str), ("_law_watch" : PySem.Str), ("_law_lists" : PySem.Str)]
theorem runK (w : World) : HandSHeadRun.RunEq RwK (PySem.W.view RwK.prog [66]) hkK obK 8000 looseK w := by
  intro os
  kernel_rfl
end KK

/-! DLL: three numbers and an empty list of one's own, at once -/
namespace DL
open PySem PySem.Spec PyProof.Rows L2
section
variable {X : Cx} {B : Bs} {O O' : List Nat}
def sFour {d : Type} (i j k l : Nat) (a b c : Int) : Env → d → R (Fl × d) := fun ρ s => .ok (.nx ((((ρ.set i (some (.int a))).set j (some (.int b))).set k (some (.int c))).set l (some (.list []))), s)
theorem ds_four (i j k l : Nat) {x y z u : Str} {a b c : Int} {ja jb jc : Nat} {pa pb pc pl px py pz pu pt pt2 pos : Pos} {kt k2 : Nat} (hN : X.N.Nodup) (hc : X.calm = true := by rfl)
    (hi1 : ∀ m, m ∈ O' → m = l ∨ m ∈ O := by decide) (hi2 : ∀ m, m ∈ O → m = l ∨ m ∈ O' := by decide) (hi3 : l ∈ O' := by decide)
    (hOi : i ∉ O := by decide) (hOj : j ∉ O := by decide) (hOk : k ∉ O := by decide)
    (h1 : X.N[i]? = some x := by rfl) (h2 : X.N[j]? = some y := by rfl) (h3 : X.N[k]? = some z := by rfl) (h4 : X.N[l]? = some u := by rfl)
    (l1 : Loc X.env.scope x := by first | exact Or.inl rfl | exact Or.inr rfl) (l2 : Loc X.env.scope y := by first | exact Or.inl rfl | exact Or.inr rfl) (l3 : Loc X.env.scope z := by first | exact Or.inl rfl | exact Or.inr rfl) (l4 : Loc X.env.scope u := by first | exact Or.inl rfl | exact Or.inr rfl)
    (f1 : X.fn x = true ∨ X.env.scope.names.lookup x = some .local := by first | exact .inl rfl | exact .inr rfl) (f2 : X.fn y = true ∨ X.env.scope.names.lookup y = some .local := by first | exact .inl rfl | exact .inr rfl) (f3 : X.fn z = true ∨ X.env.scope.names.lookup z = some .local := by first | exact .inl rfl | exact .inr rfl) (f4 : X.fn u = true ∨ X.env.scope.names.lookup u = some .local := by first | exact .inl rfl | exact .inr rfl)
    (hs : swapsWithSole [.Tuple [.Name x px, .Name y py, .Name z pz, .Name u pu] kt pt] (.Tuple [.Constant (.int a) ja pa, .Constant (.int b) jb pb, .Constant (.int c) jc pc, .List [] pl] k2 pt2) pos.line X.env = pure false := by rfl)
    (hw : swappedStores [.Tuple [.Name x px, .Name y py, .Name z pz, .Name u pu] kt pt] (.Tuple [.Constant (.int a) ja pa, .Constant (.int b) jb pb, .Constant (.int c) jc pc, .List [] pl] k2 pt2) X.env = pure none := by rfl) :
    DS X B O O' (.Assign [.Tuple [.Name x px, .Name y py, .Name z pz, .Name u pu] kt pt] (.Tuple [.Constant (.int a) ja pa, .Constant (.int b) jb pb, .Constant (.int c) jc pc, .List [] pl] k2 pt2) pos) (sFour i j k l a b c) := by
  have he : PE X (.Tuple [.Constant (.int a) ja pa, .Constant (.int b) jb pb, .Constant (.int c) jc pc, .List [] pl] k2 pt2) (tTup (tCons (tC (.int a)) (tCons (tC (.int b)) (tCons (tC (.int c)) (tCons (tLst tNil) tNil))))) :=
    pe_tup (pa_cons pe_int (pa_cons pe_int (pa_cons pe_int (pa_cons (pe_lst pa_nil) pa_nil))))
  have hg : PG X (.Tuple [.Name x px, .Name y py, .Name z pz, .Name u pu] kt pt) (gTup X.K 4 (gCons (gName i) (gCons (gName j) (gCons (gName k) (gCons (gName l) gNil))))) :=
    pg_tup hc (pgs_cons (pg_name hN h1 l1 f1) (pgs_cons (pg_name hN h2 l2 f2) (pgs_cons (pg_name hN h3 l3 f3) (pgs_cons (pg_name hN h4 l4 f4) pgs_nil))))
  refine PS.imp (ps_asg he hg hs hw) fun D σ H h => ?_
  obtain ⟨G, ρ, s, at0, p⟩ := h
  refine ⟨by decide, fun q hq => ⟨by show 4 ≤ sizeLine; decide, fun r hr => ?_⟩⟩
  have hrq : r ≠ q := fun e => by rw [e, upd_same] at hr; cases hr
  have gq : G q = none := by
    cases e : G q with
    | none => rfl
    | some o => rw [at0.sit.sub _ _ e] at hq; cases hq
  have S1 : Sit B.W G (upd H q (.lst [])) s := at0.sit.allocH hq
  have S2 : Sit B.W G (upd (upd H q (.lst [])) r (.tup [.int a, .int b, .int c, .ref q])) s := S1.allocH hr
  have g2 : Gr B.W.fp G H G (upd (upd H q (.lst [])) r (.tup [.int a, .int b, .int c, .ref q])) := (Gr.allocH hq).trans (Gr.allocH hr)
  have a2 := at0.step g2 S2
  refine ⟨r, _, rfl, SqT.of upd_same, rfl, .int a, _, rfl, .int b, _, rfl, .int c, _, rfl, .ref q, _, rfl, rfl, ?_⟩
  refine p _ G _ ⟨S2, a2.gr, ?_⟩
  refine RS.setO (((a2.rs.set (.inl (.int a)) hOi).set (.inl (.int b)) hOj).set (.inl (.int c)) hOk) hi1 hi2 hi3 (vs := []) (by rw [upd_ne (Ne.symm hrq), upd_same]) .nil gq (at0.gr.dom q hq) (fun zz => at0.sit.fpH q zz hq) fun m d mO _ e zz => ?_
  have hij : i ≠ m := fun e => hOi (e ▸ mO)
  have hjm : j ≠ m := fun e => hOj (e ▸ mO)
  have hkm : k ≠ m := fun e => hOk (e ▸ mO)
  rw [List.getElem?_set_ne hkm, List.getElem?_set_ne hjm, List.getElem?_set_ne hij] at e zz
  obtain ⟨r', ws, es, q1, q2, q3, _⟩ := at0.rs.own m d e mO
  rw [zz] at q1; cases q1
  rw [hq] at q3; cases q3
end
end DL

/-! DLM: tuple(range(n)), list(range(n)) of a written n -/
namespace DL
open PySem PySem.Spec PyProof.Rows L2
section
variable {X : Cx} {B : Bs} {O O' : List Nat}
theorem rgV_dg (G : Hp) (n : Int) : DgAll G (rgV 0 n) (rngL 0 1 n.toNat) := by
  unfold rgV rngL
  have : ∀ l : List Nat, DgAll G (l.map fun (i : Nat) => V.int (0 + (i : Int))) (l.map fun (i : Nat) => PyData.int (0 + (i : Int) * 1)) := fun l => by
    induction l with
    | nil => exact .nil
    | cons i l ih =>
      rw [List.map_cons, List.map_cons, Int.mul_one]
      exact .cons (.int _) ih
  rw [Int.sub_zero]
  exact this _
theorem de_tupRg {n : Int} {j : Nat} {p p2 pc q pos : Pos} (hm1 : X.mg "tuple" = none) (hm2 : X.mg "range" = none) (h0 : (decide (0 ≤ n) && decide (n ≤ 1000)) = true := by decide) (hc : X.calm = true := by rfl) (hg1 : Gl X "tuple" := by rfl) (hg2 : Gl X "range" := by rfl)
    (s1 : starEach [.Constant (.int n) j pc] X.env = (false, eval (.Constant (.int n) j pc) X.env) :: starEach [] X.env := by rfl)
    (s2 : starEach [.Call (.Name "range" p2) [.Constant (.int n) j pc] [] q] X.env = (false, eval (.Call (.Name "range" p2) [.Constant (.int n) j pc] [] q) X.env) :: starEach [] X.env := by rfl) :
    DE X B O (.Call (.Name "tuple" p) [.Call (.Name "range" p2) [.Constant (.int n) j pc] [] q] [] pos) (cC (.tuple (rngL 0 1 n.toNat))) :=
  PE.imp (pe_tupRg hc hg1 hm1 (prg_1 hg2 hm2 pe_int s1) s2) fun σ H Q h => by
    obtain ⟨G, ρ, s, a, p⟩ := h
    rw [Bool.and_eq_true, decide_eq_true_eq, decide_eq_true_eq] at h0
    exact ⟨n, rfl, RgOk.of_le (by omega) (by omega) (by omega) (by omega), fun q hq => PostE.tup a.sit (rgV_dg G n) p hq⟩
theorem de_lstRg {n : Int} {j : Nat} {p p2 pc q pos : Pos} (hm1 : X.mg "list" = none) (hm2 : X.mg "range" = none) (h0 : (decide (0 ≤ n) && decide (n ≤ 1000)) = true := by decide) (hc : X.calm = true := by rfl) (hg1 : Gl X "list" := by rfl) (hg2 : Gl X "range" := by rfl)
    (s1 : starEach [.Constant (.int n) j pc] X.env = (false, eval (.Constant (.int n) j pc) X.env) :: starEach [] X.env := by rfl)
    (s2 : starEach [.Call (.Name "range" p2) [.Constant (.int n) j pc] [] q] X.env = (false, eval (.Call (.Name "range" p2) [.Constant (.int n) j pc] [] q) X.env) :: starEach [] X.env := by rfl) :
    DE X B O (.Call (.Name "list" p) [.Call (.Name "range" p2) [.Constant (.int n) j pc] [] q] [] pos) (cC (.list (rngL 0 1 n.toNat))) :=
  PE.imp (pe_listRg hc hg1 hm1 (prg_1 hg2 hm2 pe_int s1) s2) fun σ H Q h => by
    obtain ⟨G, ρ, s, a, p⟩ := h
    rw [Bool.and_eq_true, decide_eq_true_eq, decide_eq_true_eq] at h0
    exact ⟨n, rfl, RgOk.of_le (by omega) (by omega) (by omega) (by omega), fun q hq => PostE.lst a.sit (rgV_dg G n) p hq⟩
end
end DL

/-! DLN: sorted(set(..)) of pairs; the list may be long, its unlike pairs are few -/
namespace DL
open PySem PySem.Spec PyProof.Rows L2
abbrev Kp := Addr × List Int
/-- what the set holds behind i items -/
structure Hld (xs : List Kp) (i : Nat) (L : List Kp) : Prop where
  inn : ∀ q ∈ L, q ∈ xs
  had : ∀ q ∈ xs.take i, q.2 ∈ L.map (·.2)
/-- unlike keys are few -/
def FewK (xs : List Kp) : Prop := ∀ L : List Kp, (∀ q ∈ L, q ∈ xs) → (L.map (·.2)).Nodup → L.length + 1 < 64
theorem Hld.next {xs L M : List Kp} {i : Nat} {q : Kp} (h : Hld xs i L) (hq : xs[i]? = some q) (c1 : q.2 ∈ L.map (·.2) → M = L) (c2 : q.2 ∉ L.map (·.2) → M.Perm (q :: L)) : Hld xs (i + 1) M := by
  have et : xs.take (i + 1) = xs.take i ++ [q] := by rw [List.take_add_one, hq]; rfl
  by_cases c : q.2 ∈ L.map (·.2)
  · have e := c1 c
    subst e
    refine ⟨h.inn, fun r hr => ?_⟩
    rw [et] at hr
    rcases List.mem_append.mp hr with z | z
    · exact h.had r z
    · rw [List.mem_singleton.mp z]; exact c
  · have pm := c2 c
    refine ⟨fun r hr => ?_, fun r hr => ?_⟩
    · rcases List.mem_cons.mp (pm.mem_iff.mp hr) with z | z
      · rw [z]; exact List.mem_of_getElem? hq
      · exact h.inn r z
    · rw [(pm.map (·.2)).mem_iff, List.map_cons]
      rw [et] at hr
      rcases List.mem_append.mp hr with z | z
      · exact List.mem_cons_of_mem _ (h.had r z)
      · rw [List.mem_singleton.mp z]; exact List.mem_cons_self
section
variable {P : Program} {w : World} {A : Around} {E : Value → Shared → Prop} {s : Shared}
theorem tup_loop {I : Addr} {fp wr : List Addr} {G : Array GenState → Array GenState → Prop} {n : Nat} {Pv : Nat → Value → Prop} {St : Nat → Shared → Prop} {R : Result → Shared → Prop} (W : WalksS P w A.in1 I fp wr G n Pv St) (Z : Addr) (zf : Z ∉ fp) (xs : List Kp) (nx : n = xs.length) (few : FewK xs)
    (vl : ∀ i v, Pv i v → ∃ q, xs[i]? = some q ∧ v = .ref q.1) (b0 : Heap) (tx : ∀ q ∈ xs, IsT P w b0 q.2 q.1) (z0 : b0.get? Z = none) (w0 : ∀ b ∈ wr, b0.get? b = none) (un : A.in1.units < cLine) :
    ∀ (m i : Nat) (s : Shared), n - i = m → i ≤ n → St i s → (∀ b o, b0.get? b = some o → s.heap.get? b = some o) → (∃ L es ep t, SetTR P w s.heap Z L es ep t ∧ Hld xs i L) →
      (∀ s' L es ep t, Moved (Z :: wr) G s s' → SetTR P w s'.heap Z L es ep t → Hld xs n L → (∀ b o, b0.get? b = some o → s'.heap.get? b = some o) → R (.ok (.ret .none)) s') → codeAny (model P w) A (.builtin "set.update.loop" ⟨[.ref Z, .ref I], []⟩) R s := by
  have zw : Z ∉ wr := fun h => zf (W.sub _ h)
  have up1 : ∀ b ∈ wr, b ∈ Z :: wr := fun b hb => List.mem_cons_of_mem _ hb
  have stay : ∀ {u v : Shared}, Moved wr G u v → (∀ b o, b0.get? b = some o → u.heap.get? b = some o) → ∀ b o, b0.get? b = some o → v.heap.get? b = some o := fun {u v} mv k b o e => by
    refine mv.heap b o (fun hb => ?_) (k b o e)
    have := w0 b hb
    rw [this] at e; cases e
  intro m
  induction m with
  | zero =>
    rintro i s hm hi st kp ⟨L, es, ep, t, hz, hl⟩ fin
    obtain rfl : i = n := by omega
    refine codeAny_builtin F.entry_set_update_loop ?_
    rw [Around.under_plainId F.plain_set_update_loop _]
    refine (wpAny_bind (W.done s _ _ st fun v mv => ?_) : wpAny _ A.in1 (pyNext (.ref I) >>= _) _ _ s)
    have kp2 := stay mv kp
    have hz2 : SetTR P w v.heap Z L es ep t := hz.keep (fun o e => mv.heap Z o zw e) fun q hq => isT_keep (tx q (hl.inn q hq)) kp2
    show wpAny _ A.in1 (ret Value.none) _ _ v
    exact wpAny_pure (fin v L es ep t (mv.mono up1) hz2 hl kp2)
  | succ m ih =>
    rintro i s hm hi st kp ⟨L, es, ep, t, hz, hl⟩ fin
    have lt : i < n := by omega
    refine codeAny_builtin F.entry_set_update_loop ?_
    rw [Around.under_plainId F.plain_set_update_loop _]
    refine (wpAny_bind (W.item i s _ _ lt st fun v u pv st' mv => ?_) : wpAny _ A.in1 (pyNext (.ref I) >>= _) _ _ s)
    obtain ⟨q, hq, rfl⟩ := vl i v pv
    have kp2 := stay mv kp
    have hz2 : SetTR P w u.heap Z L es ep t := hz.keep (fun o e => mv.heap Z o zw e) fun r hr => isT_keep (tx r (hl.inn r hr)) kp2
    have hx2 : IsT P w u.heap q.2 q.1 := isT_keep (tx q (List.mem_of_getElem? hq)) kp2
    refine (wpAny_bind (wpAny_holding ?_) : wpAny _ A.in1 (holding [Value.ref q.1] (setAdd Z (.ref q.1)) >>= _) _ _ u)
    unfold setAdd
    refine wpAny_holding (wpAny_bind (wpAny_pyHash_tuple un hx2 ?_))
    have lf := few L hl.inn hz2.nd
    refine add_at (s := { u with toks := u.toks + (q.2.length + 1) }) hz2 hx2 un lf fun b h1 M es1 ep1 t1 sm hz3 c1 c2 => ?_
    have hl2 := hl.next hq c1 c2
    have kp3 : ∀ b o, b0.get? b = some o → h1.get? b = some o := fun b o e => by
      have nb : b ≠ Z := fun z => by rw [z, z0] at e; cases e
      rw [sm.2 b nb]; exact kp2 b o e
    refine wpAny_pure ⟨plainId_quiet F.plain_set_update_loop _, ih (i + 1) _ (by omega) lt (W.frame _ u _ _ st' (Nat.le_add_right _ _) fun b hb o e => ?_) kp3 ⟨M, es1, ep1, t1, hz3, hl2⟩ fun s2 L2 es2 ep2 t2 mv2 hz4 hl4 kp4 => ?_⟩
    · have nb : b ≠ Z := fun z => zf (z ▸ hb)
      rw [sm.2 b nb]; exact e
    · refine fin s2 L2 es2 ep2 t2 (Moved.trans W.gtrans ((mv.mono up1).then_heap (Nat.le_add_right _ _) fun b o hb e => ?_) mv2) hz4 hl4 kp4
      have nb : b ≠ Z := fun z => hb (z ▸ List.mem_cons_self)
      rw [sm.2 b nb]; exact e
theorem set_of_tups {l : Addr} {items : Array Value} (xs : List Kp) {Q : Value → Shared → Prop} (hh : A.handled = none) (hl : s.heap.IsList l items) (hit : items.toList = xs.map fun q => Value.ref q.1) (tx : ∀ q ∈ xs, IsT P w s.heap q.2 q.1) (few : FewK xs) (un : A.units + 3 < cLine)
    (h : ∀ (h' : Heap) (tk : Nat) L es ep t, SetTR P w h' s.heap.objs.size L es ep t → Hld xs xs.length L → (∀ b o, s.heap.get? b = some o → h'.get? b = some o) → Q (.ref s.heap.objs.size) { s with heap := h', toks := tk }) :
    wpAny (model P w) A (call (.type "set") [.ref l]) Q E s := by
  have isz : items.size = xs.length := (Array.length_toList (xs := items)).symm.trans (by rw [hit, List.length_map])
  obtain ⟨c, tl, hmro⟩ := F.called_set.mro
  have hmade := F.called_set.made
  have hsub := F.called_set.sub
  refine wpAny_call (codeAny_of_tree ?_)
  show wpAny _ _ (callAny (.type "set") _) _ _ _
  refine wpAny_pure ⟨Code.quiet_builtin _ (by decide +kernel), codeAny_builtin F.entry_type_call ?_⟩
  rw [Around.under_plain (weight_type_call_type "set" [.ref l] []) rfl]
  have h1 := F.called_set.notType
  have h2 := F.called_set.canCreate
  have hct := F.typeCall_set_1 (.ref l)
  repeat (any_goals (first | assumption | wp_step))
  refine codeAny_mono (code_set_led1 (.ref l) (E := E) (Q₁ := fun obj s₁ => obj = .ref s.heap.objs.size ∧ s₁ = { s with heap := s.heap.push (newSet w) }) ⟨rfl, rfl⟩) fun r s₁ hr => ?_
  cases r with
  | error e => exact hr
  | ok fl =>
    cases fl with
    | ret obj =>
      obtain ⟨rfl, rfl⟩ := hr
      have gS : (s.heap.push (newSet w)).get? s.heap.objs.size = some (newSet w) := Heap.get?_push_size _ rfl
      have tS : Shared.TypeIs { s with heap := s.heap.push (newSet w) } (.ref s.heap.objs.size) "set" := ⟨_, gS, rfl⟩
      have hli := F.called_set.init.lookup
      have hbi := F.called_set.init.bind (.ref s.heap.objs.size)
      repeat (any_goals (first | assumption | wp_step))
      refine codeAny_mono (codeAny_call_builtin (R := wants (fun r s₂ => r = .none ∧ ∃ h' tk L es ep t, s₂ = { s with heap := h', toks := tk } ∧ SetTR P w h' s.heap.objs.size L es ep t ∧ Hld xs xs.length L ∧ (∀ b o, s.heap.get? b = some o → h'.get? b = some o)) E) F.called_set.init.plain F.entry_set_init (check_set_init_1 tS ?_)) fun r₂ s₂ hr₂ => ?_
      · obtain ⟨⟨oc, od, odt, os⟩, gl, rfl, nl, rfl⟩ := hl
        have gl' : (s.heap.push (newSet w)).get? l = some { cls := .type "list", dict := od, data := .seq items nl, slots := os } := Heap.get?_push_of_some _ gl
        have hsls := F.sub_list_set
        have hslf := F.sub_list_frozenset
        have hne : (Value.type "list" == Value.type "dict") = false := by decide
        have hl1 : (s.heap.push (newSet w)).IsList l items := ⟨_, gl', rfl, nl, rfl⟩
        unfold Builtin.«set.__init__» noKeywords Builtin.Frozenset.updateFrom
        generalize hPI : pyIter = PI
        wp_walk
        subst hPI
        refine wpAny_pyIter_list hl1 (wpAny_bind (wpAny_runValue ?_))
        have lS : l < s.heap.objs.size := Heap.lt_size gl
        have h3 : A.in1.in1.in1.handled = none := by simp [hh]
        have zS : (s.heap.push (newSet w)).objs.size = s.heap.objs.size + 1 := Heap.size_push ..
        have nI : l ≠ (s.heap.push (newSet w)).objs.size := by rw [zS]; exact Nat.ne_of_lt (Nat.lt_succ_of_lt lS)
        have nf : s.heap.objs.size ∉ [(s.heap.push (newSet w)).objs.size, l] := by
          rw [zS]
          simp only [List.mem_cons, List.not_mem_nil, or_false, not_or]
          exact ⟨Nat.ne_of_lt (Nat.lt_succ_self _), Nat.ne_of_gt lS⟩
        have vl : ∀ (i : Nat) (v : Value), items[i]? = some v → ∃ q, xs[i]? = some q ∧ v = .ref q.1 := fun i v hv => by
          have hv2 : (xs.map fun q => Value.ref q.1)[i]? = some v := by rw [← hit, Array.getElem?_toList]; exact hv
          rw [List.getElem?_map] at hv2
          obtain ⟨q, hq, e⟩ := Option.map_eq_some_iff.mp hv2
          exact ⟨q, hq, e.symm⟩
        have gone : ∀ b, s.heap.objs.size ≤ b → s.heap.get? b = none := fun b hb => by
          cases q : s.heap.get? b with
          | none => rfl
          | some o => exact absurd (Heap.lt_size q) (Nat.not_lt.mpr hb)
        refine tup_loop ((Walks.list h3 _ l nI items).toS) s.heap.objs.size nf xs isz few vl s.heap tx (gone _ (Nat.le_refl _)) (fun b hb => gone b (by rw [List.mem_singleton.mp hb, zS]; exact Nat.le_succ _)) un (items.size - 0) 0 _ (by omega) (Nat.zero_le _) ⟨⟨_, Heap.get?_push_size _ rfl, rfl, rfl⟩, (hl1.push _)⟩
          (fun b o e => Heap.get?_push_of_some _ (Heap.get?_push_of_some _ e)) ⟨[], #[], 0, _, setTR_fresh (Heap.get?_push_of_some _ gS), fun q hq => (by cases hq), fun q hq => (by simp at hq)⟩ ?_
        intro s' L es ep t hm hS' g' hkp
        obtain ⟨h', g2, d', tk', os'⟩ := s'
        obtain rfl : g2 = s.gens := hm.gens
        obtain rfl : d' = s.drawn := hm.drawn
        obtain rfl : os' = s.os := hm.os
        rw [isz] at g'
        exact wpAny_pure (wpAny_pure ⟨rfl, h', tk', L, es, ep, t, rfl, hS', g', hkp⟩)
      · cases r₂ with
        | error e => exact hr₂
        | ok fl₂ =>
          cases fl₂ with
          | ret r =>
            obtain ⟨rfl, h', tk, L, es, ep, t, rfl, hS', g', hk'⟩ := hr₂
            repeat (any_goals (first | assumption | wp_step))
            exact h _ _ _ _ _ _ hS' g' hk'
          | _ => exact hr₂.elim
    | _ => exact hr.elim
end
section
variable {X : Cx} {B : Bs} {O : List Nat}
theorem cr_setTF (hc : X.calm = true) (hu : X.A.units + 64 < cLine) : CallR X (.type "set") (fun vs H Q => ∃ (l : Addr) (xs : List Kp), vs = [V.ref l] ∧ SqL X.K H l (xs.map fun q => V.ref q.1) ∧ (∀ q ∈ xs, SqT X.K H q.1 (q.2.map V.int)) ∧ FewK xs ∧
    ∀ a L, H a = none → (∀ q ∈ L, q ∈ xs) → (∀ q ∈ xs, q.2 ∈ L.map (·.2)) → Q (.ref a) (upd H a (SetTO X.prog X.w a L))) := by
  intro pins s σ H vs us Q I r h
  obtain ⟨l, xs, rfl, hl, hk, few, q⟩ := h
  rw [Vals.ref1 r]
  obtain ⟨its, rv, pl, hz⟩ := I.list hl
  refine set_of_tups (P := X.prog) (w := X.w) xs (I.ok.hd hc) pl.isList (by simpa using refs_of_vals rv) (fun p hp => I.isT (hk p hp)) few (by omega) fun h' tk L es ep t R g k => ?_
  exact ⟨.ref s.heap.objs.size, upd H s.heap.objs.size (SetTO X.prog X.w s.heap.objs.size L), I.laid (t' := tk) k (Nat.le_refl _) (setTO_new R.t0), rfl, q _ L (I.hok.fresh (Nat.le_refl _)) g.inn fun p hp => g.had p (by rw [List.take_length]; exact hp)⟩
/-! ### the data rule -/
def insUP (k : Int × Int) : List (Int × Int) → List (Int × Int)
  | [] => [k]
  | x :: r => if k = x then x :: r else if lexLe k x = true then k :: x :: r else x :: insUP k r
def sortUP : List (Int × Int) → List (Int × Int)
  | [] => []
  | x :: r => insUP x (sortUP r)
def LexLt (p q : Int × Int) : Prop := p.1 < q.1 ∨ (p.1 = q.1 ∧ p.2 < q.2)
theorem mem_insUP {k j : Int × Int} : ∀ {l : List (Int × Int)}, j ∈ insUP k l ↔ j = k ∨ j ∈ l
  | [] => by simp [insUP]
  | x :: r => by
    unfold insUP
    split
    · rename_i h
      subst h
      simp
    · split
      · simp
      · rw [List.mem_cons, mem_insUP (l := r), List.mem_cons]
        constructor
        · rintro (h | h | h)
          · exact .inr (.inl h)
          · exact .inl h
          · exact .inr (.inr h)
        · rintro (h | h | h)
          · exact .inr (.inl h)
          · exact .inl h
          · exact .inr (.inr h)
theorem mem_sortUP {j : Int × Int} : ∀ {l : List (Int × Int)}, j ∈ sortUP l ↔ j ∈ l
  | [] => by simp [sortUP]
  | x :: r => by
    unfold sortUP
    rw [mem_insUP, mem_sortUP (l := r), List.mem_cons]
theorem LexLt.of {p q : Int × Int} (h : LexLe p q) (n : p ≠ q) : LexLt p q := by
  unfold LexLe at h
  unfold LexLt
  rcases h with h | ⟨h1, h2⟩
  · exact .inl h
  · refine .inr ⟨h1, ?_⟩
    rcases Int.lt_or_le p.2 q.2 with z | z
    · exact z
    · exact absurd (Prod.ext h1 (by omega)) n
theorem LexLt.trans {p q r : Int × Int} (h : LexLt p q) (k : LexLt q r) : LexLt p r := by
  unfold LexLt at *
  omega
theorem LexLt.irr {p : Int × Int} (h : LexLt p p) : False := by
  unfold LexLt at h
  omega
theorem lt_insUP {k : Int × Int} : ∀ {l : List (Int × Int)}, l.Pairwise LexLt → (insUP k l).Pairwise LexLt
  | [], _ => by simp [insUP]
  | x :: r, h => by
    have h' := List.pairwise_cons.mp h
    unfold insUP
    split
    · exact h
    · rename_i hne
      split
      · rename_i hk
        have hkx := LexLt.of (lexLe_iff.mp hk) hne
        refine List.pairwise_cons.mpr ⟨fun y hy => ?_, h⟩
        rcases List.mem_cons.mp hy with z | z
        · rw [z]; exact hkx
        · exact hkx.trans (h'.1 y z)
      · rename_i hk
        refine List.pairwise_cons.mpr ⟨fun y hy => ?_, lt_insUP h'.2⟩
        rcases mem_insUP.mp hy with z | z
        · rw [z]; exact LexLt.of (LexLe.total fun q => hk (lexLe_iff.mpr q)) (Ne.symm hne)
        · exact h'.1 y z
theorem lt_sortUP : ∀ {l : List (Int × Int)}, (sortUP l).Pairwise LexLt
  | [] => .nil
  | x :: r => lt_insUP lt_sortUP
theorem lex_ext : ∀ {l m : List (Int × Int)}, l.Pairwise LexLt → m.Pairwise LexLt → (∀ p, p ∈ l ↔ p ∈ m) → l = m
  | [], [], _, _, _ => rfl
  | [], y :: m, _, _, h => by have := (h y).mpr (by simp); simp at this
  | x :: l, [], _, _, h => by have := (h x).mp (by simp); simp at this
  | x :: l, y :: m, h1, h2, h => by
    have p1 := List.pairwise_cons.mp h1
    have p2 := List.pairwise_cons.mp h2
    have e : x = y := by
      rcases List.mem_cons.mp ((h x).mp (by simp)) with z | z
      · exact z
      · rcases List.mem_cons.mp ((h y).mpr (by simp)) with w | w
        · exact w.symm
        · exact ((p2.1 x z).trans (p1.1 y w)).irr.elim
    subst e
    congr 1
    refine lex_ext p1.2 p2.2 fun k => ⟨fun hk => ?_, fun hk => ?_⟩
    · rcases List.mem_cons.mp ((h k).mp (List.mem_cons_of_mem _ hk)) with z | z
      · subst z; exact (p1.1 _ hk).irr.elim
      · exact z
    · rcases List.mem_cons.mp ((h k).mpr (List.mem_cons_of_mem _ hk)) with z | z
      · subst z; exact (p2.1 _ hk).irr.elim
      · exact z
def okUP (ps : List (Int × Int)) : Bool := ps.all (fun p => decide (0 ≤ p.1) && decide (p.1 < 64) && decide (0 ≤ p.2) && decide (p.2 < 64)) && decide ((sortUP ps).length < 60)
def pSortSetP : PD → R PD
  | .list xs => match toPairs xs with
    | some ps => if okUP ps = true then .ok (.list ((sortUP ps).map pD)) else .bad
    | none => .bad
  | _ => .bad
def adr : V → Addr
  | .ref t => t
  | _ => 0
theorem nodup_len {a : Type} [DecidableEq a] : ∀ (l m : List a), l.Nodup → (∀ x ∈ l, x ∈ m) → l.length ≤ m.length
  | [], _, _, _ => Nat.zero_le _
  | x :: l, m, hn, hs => by
    have hn' := List.nodup_cons.mp hn
    have := nodup_len l (m.erase x) hn'.2 fun y hy => (List.mem_erase_of_ne (fun z : y = x => hn'.1 (by rw [← z]; exact hy))).mpr (hs y (List.mem_cons_of_mem _ hy))
    have hx := hs x (by simp)
    rw [List.length_erase_of_mem hx] at this
    have : 0 < m.length := List.length_pos_iff.mpr fun z => by rw [z] at hx; cases hx
    rw [List.length_cons]; omega
theorem de_sortSetP {e : Expr} {fe : Mx B PD} {p p2 q pos : Pos} (hu : X.A.units + 64 < cLine) (hm1 : X.mg "sorted" = none) (hm2 : X.mg "set" = none) (he : DE X B O e fe) (hc : X.calm = true := by rfl) (hg1 : Gl X "sorted" := by rfl) (hg2 : Gl X "set" := by rfl)
    (s1 : starEach [e] X.env = (false, eval e X.env) :: starEach [] X.env := by rfl) (s2 : starEach [.Call (.Name "set" p2) [e] [] q] X.env = (false, eval (.Call (.Name "set" p2) [e] [] q) X.env) :: starEach [] X.env := by rfl)
    (l1 : (backTo q (starEach [] X.env)).any (·.1) = false := by rfl) (l2 : (backTo pos (starEach [] X.env)).any (·.1) = false := by rfl) : DE X B O (.Call (.Name "sorted" p) [.Call (.Name "set" p2) [e] [] q] [] pos) (cUn pSortSetP fe) :=
  PE.imp (pe_callB (cr_sortedT hc) hg1 hm1 (by decide +kernel) (pa_cons (pe_callTy (cr_setTF hc hu) hg2 hm2 (by decide +kernel) (pa_cons he pa_nil s1) (by decide) (by decide) s1 l1) pa_nil s2) (by decide) (by decide) s2 l2) fun σ H Q h => by
    obtain ⟨G, ρ, s, a, p⟩ := h
    refine rdE.then a p fun x G1 H1 dx s1 a1 g1 rx p1 => ?_
    by_cases hd : isD dx = true
    · rw [if_pos hd] at p1
      unfold pSortSetP at p1
      split at p1
      · split at p1
        · rename_i ps en
          split at p1
          · rename_i hok
            unfold okUP at hok
            rw [Bool.and_eq_true, decide_eq_true_eq, List.all_eq_true] at hok
            obtain ⟨hbd, hlen⟩ := hok
            obtain ⟨l, vs, rfl, gl, dl⟩ := (rx.dg (isD_tok rfl)).of_lst
            rw [toPairs_eq en] at dl
            obtain ⟨ek, hk⟩ := pairs_of a1.sit.sub dl
            -- the keys
            let key : V → Kp := fun v => (adr v, [(kOf H1 v).1, (kOf H1 v).2])
            have hvs : vs.map (fun v => V.ref (key v).1) = vs := by
              have : ∀ v ∈ vs, V.ref (key v).1 = v := fun v hv => by
                obtain ⟨t, rfl, _⟩ := hk v hv
                rfl
              rw [List.map_congr_left this, List.map_id']
            have hin : ∀ v ∈ vs, kOf H1 v ∈ ps := fun v hv => by rw [← ek]; exact List.mem_map.mpr ⟨v, hv, rfl⟩
            have few : FewK (vs.map key) := fun L hL hn => by
              have hk2 : ∀ q ∈ L, ∃ r ∈ sortUP ps, q.2 = [r.1, r.2] := fun q hq => by
                obtain ⟨v, hv, rfl⟩ := List.mem_map.mp (hL q hq)
                exact ⟨kOf H1 v, mem_sortUP.mpr (hin v hv), rfl⟩
              have := nodup_len (L.map (·.2)) ((sortUP ps).map fun r => [r.1, r.2]) hn fun y hy => by
                obtain ⟨q, hq, rfl⟩ := List.mem_map.mp hy
                obtain ⟨r, hr, e⟩ := hk2 q hq
                exact List.mem_map.mpr ⟨r, hr, e.symm⟩
              rw [List.length_map, List.length_map] at this
              omega
            have tup : ∀ q ∈ vs.map key, SqT X.K H1 q.1 (q.2.map V.int) := fun q hq => by
              obtain ⟨v, hv, rfl⟩ := List.mem_map.mp hq
              obtain ⟨t, rfl, ht, _⟩ := hk v hv
              exact SqT.of ht
            refine ⟨l, vs.map key, rfl, ?_, tup, few, fun b L hb hL1 hL2 => ?_⟩
            · rw [List.map_map]
              show SqL X.K H1 l (vs.map fun v => V.ref (key v).1)
              rw [hvs]
              exact SqL.of (a1.sit.sub _ _ gl)
            have S2 := a1.sit.allocH (o := SetTO X.prog X.w b L) hb
            have g2 := Gr.allocH (fp := B.W.fp) (G := G1) (o := SetTO X.prog X.w b L) hb
            refine ⟨b, L, 2, 64, rfl, upd_same, fun q hq => ?_, by decide, fun q hq => ?_, fun M r pm nd few2 pw hr => ?_⟩
            · have hq2 := hL1 q hq
              obtain ⟨v, hv, rfl⟩ := List.mem_map.mp hq2
              obtain ⟨t, rfl, ht, _⟩ := hk v hv
              have hne : t ≠ b := fun z => by rw [z, hb] at ht; cases ht
              exact SqT.of (by show upd H1 b _ t = _; rw [upd_ne hne]; exact ht)
            · obtain ⟨v, hv, rfl⟩ := List.mem_map.mp (hL1 q hq)
              refine ⟨rfl, fun m hm => ?_⟩
              have := hbd _ (hin v hv)
              simp only [Bool.and_eq_true, decide_eq_true_eq] at this
              simp only [key, List.mem_cons, List.not_mem_nil, or_false] at hm
              rcases hm with rfl | rfl <;> omega
            · -- the sorted keys
              have hM : ∀ q ∈ M, ∃ v ∈ vs, q = key v := fun q hq => by
                obtain ⟨v, hv, e⟩ := List.mem_map.mp (hL1 q (pm.mem_iff.mp hq))
                exact ⟨v, hv, e.symm⟩
              have hrefs : ∀ q ∈ M, Dg G1 (V.ref q.1) (pD (kOf H1 (V.ref q.1))) ∧ q.2 = [(kOf H1 (V.ref q.1)).1, (kOf H1 (V.ref q.1)).2] := fun q hq => by
                obtain ⟨v, hv, rfl⟩ := hM q hq
                obtain ⟨t, rfl, _, hdg⟩ := hk v hv
                exact ⟨hdg, rfl⟩
              have es : M.map (fun q => kOf H1 (V.ref q.1)) = sortUP ps := by
                refine lex_ext ?_ lt_sortUP fun k => ?_
                · rw [List.pairwise_map]
                  have nd2 := List.pairwise_map.mp nd
                  refine List.Pairwise.imp_of_mem (fun {u v} hu' hv' huv => ?_) (nd2.and pw)
                  obtain ⟨hne, hle⟩ := huv
                  have e1 := (hrefs u hu').2
                  have e2 := (hrefs v hv').2
                  have b1 := hL1 u (pm.mem_iff.mp hu')
                  have b2 := hL1 v (pm.mem_iff.mp hv')
                  obtain ⟨x1, hx1, rfl⟩ := List.mem_map.mp b1
                  obtain ⟨x2, hx2, rfl⟩ := List.mem_map.mp b2
                  have c1 := hbd _ (hin x1 hx1)
                  have c2 := hbd _ (hin x2 hx2)
                  simp only [Bool.and_eq_true, decide_eq_true_eq] at c1 c2
                  have w1 : V.ref (key x1).1 = x1 := by obtain ⟨t, rfl, _⟩ := hk x1 hx1; rfl
                  have w2 : V.ref (key x2).1 = x2 := by obtain ⟨t, rfl, _⟩ := hk x2 hx2; rfl
                  rw [w1, w2]
                  exact pair_lt hle hne ⟨c1.1.1.1, c1.1.1.2⟩ ⟨c1.1.2, c1.2⟩ ⟨c2.1.1.1, c2.1.1.2⟩ ⟨c2.1.2, c2.2⟩
                · rw [mem_sortUP, List.mem_map]
                  constructor
                  · rintro ⟨q, hq, rfl⟩
                    obtain ⟨v, hv, rfl⟩ := hM q hq
                    have w1 : V.ref (key v).1 = v := by obtain ⟨t, rfl, _⟩ := hk v hv; rfl
                    rw [w1]
                    exact hin v hv
                  · intro hkp
                    rw [← ek] at hkp
                    obtain ⟨v, hv, rfl⟩ := List.mem_map.mp hkp
                    obtain ⟨q, hq, e⟩ := List.mem_map.mp (hL2 (key v) (List.mem_map.mpr ⟨v, hv, rfl⟩))
                    refine ⟨q, pm.mem_iff.mpr hq, ?_⟩
                    have e2 := (hrefs q (pm.mem_iff.mpr hq)).2
                    rw [e] at e2
                    simp only [key, List.cons.injEq, and_true] at e2
                    exact (Prod.ext e2.1 e2.2).symm
              have hd2 : DgAll G1 (M.map fun q => V.ref q.1) ((sortUP ps).map pD) := by
                rw [← es, List.map_map]
                have : ∀ N : List Kp, (∀ q ∈ N, Dg G1 (V.ref q.1) (pD (kOf H1 (V.ref q.1)))) → DgAll G1 (N.map fun q => V.ref q.1) (N.map (pD ∘ fun q => kOf H1 (V.ref q.1))) := fun N => by
                  induction N with
                  | nil => intro _; exact .nil
                  | cons q N ih => intro hN; exact .cons (hN q (by simp)) (ih fun r hr => hN r (List.mem_cons_of_mem _ hr))
                exact this M fun q hq => (hrefs q hq).1
              exact PostE.lst (ds := (sortUP ps).map pD) S2 hd2 (PostE.mono g2 p1) hr
          · exact p1.elim
        · exact p1.elim
      · exact p1.elim
    · rw [if_neg hd] at p1; exact p1.elim
end
end DL

/-! DLO: texts -/
namespace DL
open PySem PySem.Spec PyProof.Rows L2
def toStrs : List PD → Option (List Str)
  | [] => some []
  | .str a :: r => match toStrs r with
    | some l => some (a :: l)
    | none => none
  | _ => none
theorem toStrs_eq : ∀ {xs : List PD} {l : List Str}, toStrs xs = some l → xs = l.map PyData.str
  | [], l, h => by cases h; rfl
  | x :: r, l, h => by
    unfold toStrs at h
    split at h
    · rename_i e; cases e
    · rename_i e
      split at h
      · rename_i q hq
        cases h
        cases e
        rw [toStrs_eq hq]
        rfl
      · cases h
    · cases h
theorem toStrs_map : ∀ l : List Str, toStrs (l.map PyData.str) = some l
  | [] => rfl
  | a :: l => by
    show (match toStrs (l.map PyData.str) with | some q => some (a :: q) | none => none) = _
    rw [toStrs_map l]
theorem DgAll.strs {G : Hp} : ∀ {vs : List V} {l : List Str}, DgAll G vs (l.map PyData.str) → vs = l.map V.str
  | [], [], _ => rfl
  | [], _ :: _, h => by cases h
  | _ :: _, [], h => by cases h
  | v :: vs, a :: l, h => by
    cases h with
    | cons h1 h2 => rw [h1.of_str, DgAll.strs h2]; rfl
theorem DgAll.of_strs {G : Hp} : ∀ l : List Str, DgAll G (l.map V.str) (l.map PyData.str)
  | [] => .nil
  | a :: l => .cons (.str a) (DgAll.of_strs l)
section
variable {X : Cx} {B : Bs} {O : List Nat}
/-- str(int) -/
def pStr : List PD → R PD
  | [.int i] => if decide (i.natAbs.log2 < 1920) then .ok (.str (toString i)) else .bad
  | _ => .bad
theorem dc_str : CallR X (.type "str") (rdC pStr) := by
  refine CallR.by fun vs H Q h => ?_
  obtain ⟨G, ds, sb, rs, p⟩ := h
  unfold pStr at p
  split at p
  · obtain ⟨v, rfl, rv⟩ := rs.one
    split at p
    · rename_i hz
      exact ⟨_, call_str_int, _, by rw [rv.of_int], of_decide_eq_true hz, p.val sb (.str _)⟩
    · exact p.elim
  · exact p.elim
/-- int(text) -/
def pIntS : List PD → R PD
  | [.str a] => match PySem.intText? a with
    | some n => if a.length ≤ 640 then .ok (.int n) else .bad
    | none => .bad
  | _ => .bad
theorem dc_intS : CallR X (.type "int") (rdC pIntS) := by
  refine CallR.by fun vs H Q h => ?_
  obtain ⟨G, ds, sb, rs, p⟩ := h
  unfold pIntS at p
  split at p
  · obtain ⟨v, rfl, rv⟩ := rs.one
    split at p
    · rename_i n hn
      split at p
      · rename_i hl
        exact ⟨_, call_int_str, _, n, by rw [rv.of_str], hn, hl, p.val sb (.int _)⟩
      · exact p.elim
    · exact p.elim
  · exact p.elim
/-- a text's method with one argument -/
def cTxt {d : Type} (f : PD → PD → R PD) (a b : Env → d → R (PD × d)) : Env → d → R (PD × d) := fun ρ s => bnd (a ρ s) fun x s1 => match x with
  | .str z => bnd (b ρ s1) fun y s2 => if isD y then lft (isOk (f (.str z) y)) s2 else .bad
  | _ => .bad
theorem de_txt {name : Str} {id : String} {f : PD → PD → R PD} {o e : Expr} {fo fe : Mx B PD} {apos pos : Pos} (slot : Slot "str" name id) (hty : typeOf (.builtin id) = pure (.type "method_descriptor")) (hmt : MtR X id (rdM f)) (ho : DE X B O o fo) (he : DE X B O e fe)
    (hs : starEach [e] X.env = [(false, eval e X.env)] := by rfl) (hbase : attributeBase o name X.env (eval o X.env) = eval o X.env := by rfl) (hline : (apos.endLine == pos.line) = true := by rfl) : DE X B O (.Call (.Attribute o name apos) [e] [] pos) (cTxt f fo fe) :=
  PE.imp (pe_m1 slot hty hmt ho he hs hbase hline) fun σ H Q h => by
    obtain ⟨G, ρ, s, a, q⟩ := h
    refine rdE.then a q fun x G1 H1 dx s1 a1 g1 rx p1 => ?_
    cases dx with
    | str z =>
      have ex := (rx.dg (isD_tok rfl)).of_str
      refine ⟨⟨z, ex⟩, ?_⟩
      have p1 : PostE B G1 H1 (bnd (fe ρ s1) fun y s2 => if isD y then lft (isOk (f (.str z) y)) s2 else .bad) Q := p1
      refine rdE.then a1 p1 fun y G2 H2 dy s2 a2 g2 ry p2 => ?_
      by_cases hd : isD dy = true
      · rw [if_pos hd] at p2
        exact ⟨y, rfl, G2, .str z, dy, a2.sit.sub, (rx.mono g2.g).dg (isD_tok rfl), ry.dg (isD_tok hd), (PostD.of a2.sit p2 (isOk_nx _)).isOk⟩
      · rw [if_neg hd] at p2; exact p2.elim
    | _ => exact p1.elim
def pJoin : PD → PD → R PD
  | .str a, .list ds => match toStrs ds with
    | some ys => if (ys.map (·.length)).sum + ys.length * a.length ≤ 16777216 then .ok (.str (Txt.join a ys)) else .bad
    | none => .bad
  | _, _ => .bad
theorem dm_join : MtR X "str.join" (rdM pJoin) := by
  refine MtR.by fun x vs H Q h => ?_
  obtain ⟨y, rfl, G, d, e, sb, rx, ry, p⟩ := h
  unfold pJoin at p
  split at p
  · obtain ⟨a, us, rfl, ga, da⟩ := ry.of_lst
    split at p
    · rename_i ys es
      split at p
      · rename_i hz
        rw [toStrs_eq es] at da
        have e2 := da.strs
        subst e2
        exact ⟨_, mt_join, _, a, ys, rx.of_str, rfl, .inl (SqL.of (sb _ _ ga)), hz, p.val sb (.str _)⟩
      · exact p.elim
    · exact p.elim
  · exact p.elim
def pSplit : PD → PD → R PD
  | .str a, .str b => if (b.length == 0) = false ∧ a.length + 2 ≤ sizeLine then .ok (.list ((Txt.split a b).map PyData.str)) else .bad
  | _, _ => .bad
theorem dm_split : MtR X "str.split" (rdM pSplit) := by
  refine MtR.by fun x vs H Q h => ?_
  obtain ⟨y, rfl, G, d, e, sb, rx, ry, p⟩ := h
  unfold pSplit at p
  split at p
  · split at p
    · rename_i hz
      exact ⟨_, mt_split, _, _, rx.of_str, by rw [ry.of_str], hz.1, hz.2, fun q hq => p.lst sb (DgAll.of_strs _) hq⟩
    · exact p.elim
  · exact p.elim
/-- one sign in a text -/
def pInS : PD → PD → R PD
  | .str x, .str z => match x.cps.toList with
    | [c] => .ok (.bool (decide (c ∈ z.cps.toList)))
    | _ => .bad
  | _, _ => .bad
theorem dop_inS : DOp X (compareOp .In) pInS := by
  refine OpR.by fun x y H Q h => ?_
  obtain ⟨G, d, e, sb, rx, ry, p⟩ := h
  unfold pInS at p
  split at p
  · rename_i x0 z0
    split at p
    · rename_i c hc
      refine ⟨_, op_in_sign, c, z0, ?_, ry.of_str, p.val sb (.bl _)⟩
      rw [rx.of_str]
      congr 1
      obtain ⟨cps⟩ := x0
      congr 1
      exact Array.ext' (by simpa using hc)
    · exact p.elim
  · exact p.elim
/-- f"{a}c{b}" of ints -/
def cF3 {d : Type} (c : Str) (a b : Env → d → R (PD × d)) : Env → d → R (PD × d) := fun ρ s => bnd (a ρ s) fun x s1 => match x with
  | .int i => if decide (i.natAbs.log2 < 1920) = true ∧ (Str.empty ++ (toString i : Str)).length ≤ 1000 ∧ ((Str.empty ++ (toString i : Str)) ++ c).length ≤ 1000 then bnd (b ρ s1) fun y s2 => match y with
    | .int j => if decide (j.natAbs.log2 < 1920) = true ∧ (((Str.empty ++ (toString i : Str)) ++ c) ++ (toString j : Str)).length ≤ 1000 then .ok (.str (((Str.empty ++ (toString i : Str)) ++ c) ++ (toString j : Str)), s2) else .bad
    | _ => .bad
    else .bad
  | _ => .bad
theorem de_f3 {e1 e2 : Expr} {c : Str} {f1 f2 : Mx B PD} {j : Nat} {p1 p2 p3 pos : Pos} (h1 : DE X B O e1 f1) (h2 : DE X B O e2 f2) : DE X B O (.JoinedStr [.FormattedValue e1 (-1) none p1, .Constant (.str c) j p2, .FormattedValue e2 (-1) none p3] pos) (cF3 c f1 f2) :=
  PE.imp (pe_joined (.cons (pe_fmt h1) (.cons pe_str (.cons (pe_fmt h2) .nil)))) fun σ H Q h => by
    have hz : (1000 : Nat) ≤ sizeLine := by decide
    obtain ⟨G, ρ, s, a, q⟩ := h
    refine rdE.then a q fun x G1 H1 dx s1 a1 g1 rx q1 => ?_
    cases dx with
    | int i =>
      dsimp only at q1
      split at q1
      · rename_i hi
        obtain ⟨hi1, hi2, hi3⟩ := hi
        refine .inr ⟨i, (rx.dg (isD_tok rfl)).of_int, of_decide_eq_true hi1, _, rfl, Nat.le_trans hi2 hz, c, rfl, Nat.le_trans hi3 hz, ?_⟩
        refine rdE.then a1 q1 fun y G2 H2 dy s2 a2 g2 ry q2 => ?_
        cases dy with
        | int k =>
          dsimp only at q2
          split at q2
          · rename_i hk
            refine .inr ⟨k, (ry.dg (isD_tok rfl)).of_int, of_decide_eq_true hk.1, _, rfl, Nat.le_trans hk.2 hz, ?_⟩
            exact q2.done a2.sit (.inl (.str _))
          · exact q2.elim
        | _ => exact q2.elim
      · exact q1.elim
    | _ => exact q1.elim
/-- not in a tuple of texts -/
def pNotInT : PD → PD → R PD
  | .str x, .tuple ds => match toStrs ds with
    | some ys => .ok (.bool (!decide (x ∈ ys)))
    | none => .bad
  | _, _ => .bad
theorem flat_strs : ∀ ys : List Str, (ys.map V.str).all flatV = true
  | [] => rfl
  | y :: ys => by
    rw [List.map_cons, List.all_cons, flat_strs ys]
    rfl
theorem inV_strs (x : Str) : ∀ ys : List Str, inV (.str x) (ys.map V.str) = decide (x ∈ ys)
  | [] => rfl
  | y :: ys => by
    have ih := inV_strs x ys
    unfold inV at ih ⊢
    rw [List.map_cons, List.any_cons, ih]
    by_cases h : x = y
    · subst h
      simp [eqV]
    · have h2 : ¬ y = x := fun z => h z.symm
      simp [eqV, h, h2]
theorem dop_notInT : DOp X (compareOp .NotIn) pNotInT := by
  refine OpR.by fun x y H Q h => ?_
  obtain ⟨G, d, e, sb, rx, ry, p⟩ := h
  unfold pNotInT at p
  split at p
  · rename_i x0 ds
    split at p
    · rename_i ys es
      obtain ⟨a, us, rfl, ga, da⟩ := ry.of_tup
      rw [toStrs_eq es] at da
      have e2 := da.strs
      subst e2
      refine ⟨_, op_notIn_seq, a, ys.map V.str, rfl, .inr (SqT.of (sb _ _ ga)), by rw [rx.of_str]; rfl, flat_strs ys, ?_⟩
      rw [rx.of_str, inV_strs]
      exact p.val sb (.bl _)
    · exact p.elim
  · exact p.elim
end
end DL

/-! DLP: two worlds, one beside the other; objects with a state of their own -/
namespace DL
open PySem PySem.Spec PyProof.Rows L2
def Wd.and (W1 W2 : Wd) : Wd where
  d := W1.d × W2.d
  fp := fun a => W1.fp a ∨ W2.fp a
  rep := fun s G H => W1.rep s.1 G H ∧ W2.rep s.2 G H ∧ ∀ a, W1.fp a → ¬ W2.fp a
  tk := fun n => if n = 1 then W2.tk 1 else W1.tk n
  cls := W1.cls
  keep := fun h g k => ⟨W1.keep h.1 g fun a o f => k a o (.inl f), W2.keep h.2.1 g fun a o f => k a o (.inr f), h.2.2⟩
theorem Gr.fpG {fp fq : Addr → Prop} {G H G' H' : Hp} (g : Gr fp G H G' H') (h1 : ∀ a, fq a → G a = none) (h2 : ∀ a, fq a → H a ≠ none) (a : Addr) (f : fq a) : G' a = none := by
  cases e : G' a with
  | none => rfl
  | some o =>
    rcases g.new a o e with z | z
    · rw [h1 a f] at z; cases z
    · exact absurd z (h2 a f)
theorem Gr.fpH {fp fq : Addr → Prop} {G H G' H' : Hp} (g : Gr fp G H G' H') (h2 : ∀ a, fq a → H a ≠ none) (a : Addr) (f : fq a) : H' a ≠ none := fun z => h2 a f (g.dom a z)
section
variable {W1 W2 : Wd} {G H G' H' : Hp} {s : (W1.and W2).d}
theorem Sit.left (S : Sit (W1.and W2) G H s) : Sit W1 G H s.1 := ⟨S.sub, fun a f => S.fpG a (.inl f), fun a f => S.fpH a (.inl f), S.rep.1⟩
theorem Sit.right (S : Sit (W1.and W2) G H s) : Sit W2 G H s.2 := ⟨S.sub, fun a f => S.fpG a (.inr f), fun a f => S.fpH a (.inr f), S.rep.2.1⟩
theorem Sit.joinL {s1 : W1.d} (S : Sit (W1.and W2) G H s) (g : Gr W1.fp G H G' H') (S1 : Sit W1 G' H' s1) : Sit (W1.and W2) G' H' (s1, s.2) := by
  refine ⟨S1.sub, fun a f => ?_, fun a f => ?_, S1.rep, W2.keep S.rep.2.1 g.g fun a o f e => g.h a o (fun z => S.rep.2.2 a z f) e, S.rep.2.2⟩
  · exact g.fpG (fq := (W1.and W2).fp) S.fpG S.fpH a f
  · exact g.fpH (fq := (W1.and W2).fp) S.fpH a f
theorem Sit.joinR {s2 : W2.d} (S : Sit (W1.and W2) G H s) (g : Gr W2.fp G H G' H') (S2 : Sit W2 G' H' s2) : Sit (W1.and W2) G' H' (s.1, s2) := by
  refine ⟨S2.sub, fun a f => ?_, fun a f => ?_, W1.keep S.rep.1 g.g fun a o f e => g.h a o (fun z => S.rep.2.2 a f z) e, S2.rep, S.rep.2.2⟩
  · exact g.fpG (fq := (W1.and W2).fp) S.fpG S.fpH a f
  · exact g.fpH (fq := (W1.and W2).fp) S.fpH a f
/-- an object alone, beside the pure world -/
theorem Sit.alone {cls : Nat → Addr} {tk : Nat → V} {s2 : W2.d} (S : Sit W2 G H s2) : Sit ((Wp cls tk).and W2) G H ((), s2) :=
  ⟨S.sub, fun a f => f.elim (fun z => z.elim) (S.fpG a), fun a f => f.elim (fun z => z.elim) (S.fpH a), trivial, S.rep, fun _ z => z.elim⟩
theorem Gr.alone {cls : Nat → Addr} {tk : Nat → V} {fp : Addr → Prop} (g : Gr (fun a => False ∨ fp a) G H G' H') : Gr fp G H G' H' := g.weak fun _ z => z.elim (fun q => q.elim) id
end
/-! ### tokens -/
def isT (n : Int) : PD → Bool
  | .dict [(.int m, .none)] => decide (m = n)
  | _ => false
theorem isT_tok {n : Int} {k : Nat} (h : isT n (tokD k) = true) : (k : Int) = n := of_decide_eq_true h
def okT (n : Int) (d : PD) : Bool := isD d || isT n d
theorem Rp.one {W1 W2 : Wd} {G : Hp} {v : V} {d : PD} (ht : ∀ n, W2.tk n = W2.tk 1) (r : Rp (W1.and W2).tk G v d) (h : okT 1 d = true) : Rp W2.tk G v d := by
  rcases r with r | ⟨k, e, q⟩
  · exact .inl r
  · subst e
    have h2 : isT 1 (tokD k) = true := by
      unfold okT at h
      rw [show isD (tokD k) = false from rfl, Bool.false_or] at h
      exact h
    have hk : k = 1 := by have := isT_tok h2; omega
    subst hk
    exact .inr ⟨1, rfl, by rw [q]; show (if (1 : Nat) = 1 then W2.tk 1 else W1.tk 1) = _; rw [if_pos rfl]⟩
theorem Rp.zero {W1 W2 : Wd} {G : Hp} {v : V} {d : PD} (r : Rp (W1.and W2).tk G v d) (h : okT 0 d = true) : Rp W1.tk G v d := by
  rcases r with r | ⟨k, e, q⟩
  · exact .inl r
  · subst e
    have h2 : isT 0 (tokD k) = true := by
      unfold okT at h
      rw [show isD (tokD k) = false from rfl, Bool.false_or] at h
      exact h
    have hk : k = 0 := by have := isT_tok h2; omega
    subst hk
    exact .inr ⟨0, rfl, by rw [q]; show (if (0 : Nat) = 1 then W2.tk 1 else W1.tk 0) = _; rw [if_neg (by decide)]⟩
theorem RpAll.one {W1 W2 : Wd} {G : Hp} (ht : ∀ n, W2.tk n = W2.tk 1) : ∀ {vs : List V} {ds : List PD}, RpAll (W1.and W2).tk G vs ds → ds.all (okT 1) = true → RpAll W2.tk G vs ds
  | _, _, .nil, _ => .nil
  | _, _, .cons a b, h => by
    rw [List.all_cons, Bool.and_eq_true] at h
    exact .cons (a.one ht h.1) (RpAll.one ht b h.2)
theorem RpAll.zero {W1 W2 : Wd} {G : Hp} : ∀ {vs : List V} {ds : List PD}, RpAll (W1.and W2).tk G vs ds → ds.all (okT 0) = true → RpAll W1.tk G vs ds
  | _, _, .nil, _ => .nil
  | _, _, .cons a b, h => by
    rw [List.all_cons, Bool.and_eq_true] at h
    exact .cons (a.zero h.1) (RpAll.zero b h.2)
theorem Rp.isT1 {W1 W2 : Wd} {G : Hp} {v : V} {d : PD} (r : Rp (W1.and W2).tk G v d) (h : isT 1 d = true) : v = W2.tk 1 := by
  rcases r with r | ⟨k, e, q⟩
  · cases r <;> cases h
  · subst e
    have hk : k = 1 := by have := isT_tok h; omega
    subst hk
    rw [q]; show (if (1 : Nat) = 1 then W2.tk 1 else W1.tk 1) = _; rw [if_pos rfl]

/-! ### defs that are handed the object -/
def PostW (cls : Nat → Addr) (W : Wd) (G H : Hp) (r : R (PD × W.d)) (Q : VK) (E : XK) : Prop :=
  match r with
  | .ok (d, s') => ∀ v G' H', Gr W.fp G H G' H' → Sit W G' H' s' → Rp W.tk G' v d → Q v H'
  | .exc c => ∀ G' H', Gr (fun _ => False) G H G' H' → E (.ref (cls c)) none H'
  | .bad => False
def spW {ι : Type} (cls : Nat → Addr) (F : ι → Wd) (n : Nat) (m : ∀ i, List PD → (F i).d → R (PD × (F i).d)) : Sp := fun vs H Q E => ∃ (i : ι) (G : Hp) (ds : List PD) (s : (F i).d), Sit (F i) G H s ∧ RpAll (F i).tk G vs ds ∧ ds.length = n ∧ PostW cls (F i) G H (m i ds s) Q E
/-- what comes back, beside the first state -/
def outR {t1 t2 : Type} (s1 : t1) (r : R (PD × t2)) : R (PD × (t1 × t2)) := match r with
  | .ok (d, t') => if isD d then .ok (d, (s1, t')) else .bad
  | _ => .bad
def cCallW {t1 t2 : Type} (n : Nat) (m : List PD → t2 → R (PD × t2)) (a : Env → t1 × t2 → R (List PD × (t1 × t2))) : Env → t1 × t2 → R (PD × (t1 × t2)) := fun ρ s =>
  bnd (a ρ s) fun ds s1 => if ds.length = n ∧ ds.all (okT 1) = true then outR s1.1 (m ds s1.2) else .bad
section
variable {X : Cx} {O O' : List Nat} {W1 W2 : Wd} {cls : Nat → Addr} {G0 H0 : Hp} {E : XK}
theorem PostW.of {G H : Hp} {s : (W1.and W2).d} {r : R (PD × W2.d)} {Q : VK} {E' : XK} (S : Sit (W1.and W2) G H s) (p : PostE ⟨W1.and W2, G0, H0, E⟩ G H (outR s.1 r) Q) : PostW cls W2 G H r Q E' := by
  cases r with
  | bad => exact p.elim
  | exc c => exact p.elim
  | ok y =>
    obtain ⟨d, t'⟩ := y
    unfold outR at p
    dsimp only at p
    by_cases hd : isD d = true
    · rw [if_pos hd] at p
      exact fun v G' H' g S2 rv => p v G' H' (g.weak fun _ z => .inr z) (S.joinR g S2) (.inl (rv.dg (isD_tok hd)))
    · rw [if_neg hd] at p; exact p.elim
theorem de_callW {ι : Type} {F : ι → Wd} {i : ι} {k : Nat} {f : Addr} {fd : FuncData} {ps : List Str} {x : Str} {n : Nat} {m : ∀ i, List PD → (F i).d → R (PD × (F i).d)} {e : Expr} {es : List Expr} {fa : Mx ⟨W1.and (F i), G0, H0, E⟩ (List PD)} {p pos : Pos}
    (hF : FnOk X.prog X.w X.K X.mg X.base (L2.CX X.prog X.w) k f fd ps (spW cls F n m)) (hm : X.mg x = some (.ref f)) (hk : PySem.W.keepIn X.K (.ref f) = true) (hb : Binds X.K fd ps []) (ht : ∀ n, (F i).tk n = (F i).tk 1) (hr : Room k X.A) (ha : DA X ⟨W1.and (F i), G0, H0, E⟩ O (e :: es) fa) (hg : Gl X x := by rfl)
    (hdb : (x == ("__debug__" : Str)) = false := by decide) (he : starEach (e :: es) X.env = (false, eval e X.env) :: starEach es X.env := by rfl) (hpl : (backTo pos (starEach es X.env)).any (·.1) = false := by rfl) : DE X ⟨W1.and (F i), G0, H0, E⟩ O (.Call (.Name x p) (e :: es) [] pos) (cCallW (t1 := W1.d) (t2 := (F i).d) n (m i) fa) := by
  refine PE.imp (pe_call hF hr hg hm hk hb .nil passL ha hdb he hpl) fun σ H Q h => ?_
  obtain ⟨G, ρ, s, a, p⟩ := h
  refine rdA.then a p fun vs G1 H1 ds s1 a1 g1 rv p1 => ?_
  by_cases hl : ds.length = n ∧ ds.all (okT 1) = true
  · rw [if_pos hl] at p1
    rw [List.append_nil]
    exact ⟨i, G1, ds, s1.2, a1.sit.right, rv.one ht hl.2, hl.1, PostW.of a1.sit p1⟩
  · rw [if_neg hl] at p1; exact p1.elim
/-- o.m(e, ..) of the object -/
def cMethW {t1 t2 : Type} (n : Nat) (m : List PD → t2 → R (PD × t2)) (o : Env → t1 × t2 → R (PD × (t1 × t2))) (a : Env → t1 × t2 → R (List PD × (t1 × t2))) : Env → t1 × t2 → R (PD × (t1 × t2)) := fun ρ s =>
  bnd (o ρ s) fun x s0 => if isT 1 x = true then bnd (a ρ s0) fun ds s1 => if ds.length + 1 = n ∧ allD ds = true then outR s1.1 (m (tokD 1 :: ds) s1.2) else .bad else .bad
/-- the object is an instance of the class C, as m wants it -/
def IsInsM (W2 : Wd) (C : Addr) (m : Str) : Prop := ∀ {s : W2.d} {G H : Hp}, W2.rep s G H → ∃ a dx fs, W2.tk 1 = .ref a ∧ H a = some (.ins C dx fs) ∧ fs.lookup m = none
theorem de_methW {ι : Type} {F : ι → Wd} {i : ι} {k : Nat} {f C : Addr} {fd : FuncData} {ps : List Str} {mn : Str} {n : Nat} {m : ∀ i, List PD → (F i).d → R (PD × (F i).d)} {o e : Expr} {es : List Expr} {fo : Mx ⟨W1.and (F i), G0, H0, E⟩ PD} {fa : Mx ⟨W1.and (F i), G0, H0, E⟩ (List PD)} {apos pos : Pos} {pl : Sem Bool}
    (hF : FnOk X.prog X.w X.K X.mg X.base (L2.CX X.prog X.w) k f fd ps (spW cls F n m)) (hc : Cls X.K C) (hm : Meth X.K C mn f) (hb : Binds X.K fd ps []) (hi : IsInsM (F i) C mn) (ht : ∀ n, (F i).tk n = (F i).tk 1) (hr : Room k X.A) (ho : DE X ⟨W1.and (F i), G0, H0, E⟩ O o fo) (ha : DA X ⟨W1.and (F i), G0, H0, E⟩ O (e :: es) fa)
    (hst : starEach (e :: es) X.env = (false, eval e X.env) :: starEach es X.env := by rfl) (hpl : (backTo pos (starEach es X.env)).any (·.1) = false := by rfl)
    (hev : eval (.Call (.Attribute o mn apos) (e :: es) [] pos) X.env = (do
      let ov ← eval o X.env
      standAt apos.atName
      let (f, first) ← holding [ov] (getMethod ov mn pl)
      callWith pos f first (backTo pos (starEach (e :: es) X.env)) (backToKw pos (keywordEach [] X.env))) := by rfl) :
    DE X ⟨W1.and (F i), G0, H0, E⟩ O (.Call (.Attribute o mn apos) (e :: es) [] pos) (cMethW (t1 := W1.d) (t2 := (F i).d) n (m i) fo fa) := by
  refine PE.imp (pe_meth ho hc hm hF hr hb .nil passL ha hst hpl hev) fun σ H Q h => ?_
  obtain ⟨G, ρ, s, a, p⟩ := h
  refine rdE.then a p fun v G1 H1 dx s1 a1 g1 rx p1 => ?_
  by_cases hd : isT 1 dx = true
  · rw [if_pos hd] at p1
    have hv := rx.isT1 hd
    obtain ⟨y, dy, fs, e1, e2, e3⟩ := hi a1.sit.rep.2.1
    refine ⟨y, dy, fs, hv.trans e1, e2, e3, ?_⟩
    refine rdA.then a1 p1 fun vs G2 H2 ds s2 a2 g2 rv p2 => ?_
    by_cases hl : ds.length + 1 = n ∧ allD ds = true
    · rw [if_pos hl] at p2
      rw [List.append_nil]
      exact ⟨i, G2, tokD 1 :: ds, s2.2, a2.sit.right, .cons (.inr ⟨1, rfl, hv⟩) (DgAll.rp (rv.dg hl.2)), hl.1, PostW.of a2.sit p2⟩
    · rw [if_neg hl] at p2; exact p2.elim
  · rw [if_neg hd] at p1; exact p1.elim
def cMethW0 {t1 t2 : Type} (m : List PD → t2 → R (PD × t2)) (o : Env → t1 × t2 → R (PD × (t1 × t2))) : Env → t1 × t2 → R (PD × (t1 × t2)) := fun ρ s =>
  bnd (o ρ s) fun x s1 => if isT 1 x = true then outR s1.1 (m [tokD 1] s1.2) else .bad
theorem de_methW0 {ι : Type} {F : ι → Wd} {i : ι} {k : Nat} {f C : Addr} {fd : FuncData} {ps : List Str} {mn : Str} {m : ∀ i, List PD → (F i).d → R (PD × (F i).d)} {o : Expr} {fo : Mx ⟨W1.and (F i), G0, H0, E⟩ PD} {apos pos : Pos} {pl : Sem Bool}
    (hF : FnOk X.prog X.w X.K X.mg X.base (L2.CX X.prog X.w) k f fd ps (spW cls F 1 m)) (hc : Cls X.K C) (hm : Meth X.K C mn f) (hb : Binds X.K fd ps []) (hi : IsInsM (F i) C mn) (ht : ∀ n, (F i).tk n = (F i).tk 1) (hr : Room k X.A) (ho : DE X ⟨W1.and (F i), G0, H0, E⟩ O o fo)
    (hev : eval (.Call (.Attribute o mn apos) [] [] pos) X.env = (do
      let ov ← eval o X.env
      standAt apos.atName
      let (f, first) ← holding [ov] (getMethod ov mn pl)
      callWith pos f first (backTo pos (starEach [] X.env)) (backToKw pos (keywordEach [] X.env))) := by rfl) :
    DE X ⟨W1.and (F i), G0, H0, E⟩ O (.Call (.Attribute o mn apos) [] [] pos) (cMethW0 (t1 := W1.d) (t2 := (F i).d) (m i) fo) := by
  refine PE.imp (pe_meth0 ho hc hm hF hr hb .nil passL hev) fun σ H Q h => ?_
  obtain ⟨G, ρ, s, a, p⟩ := h
  refine rdE.then a p fun v G1 H1 dx s1 a1 g1 rx p1 => ?_
  by_cases hd : isT 1 dx = true
  · rw [if_pos hd] at p1
    have hv := rx.isT1 hd
    obtain ⟨y, dy, fs, e1, e2, e3⟩ := hi a1.sit.rep.2.1
    exact ⟨y, dy, fs, hv.trans e1, e2, e3, i, G1, [tokD 1], s1.2, a1.sit.right, .cons (.inr ⟨1, rfl, hv⟩) .nil, rfl, PostW.of a1.sit p1⟩
  · rw [if_neg hd] at p1; exact p1.elim
end
/-! ### a draw beside an object -/
def cCallD2 {t2 : Type} (n : Nat) (m : List PD → Dr → R (PD × Dr)) (a : Env → Dr × t2 → R (List PD × (Dr × t2))) : Env → Dr × t2 → R (PD × (Dr × t2)) := fun ρ s =>
  bnd (a ρ s) fun ds s1 => if ds.length = n ∧ ds.all (okT 0) = true then (match m ds s1.1 with
    | .ok (d, s') => if isD d then .ok (d, (s', s1.2)) else .bad
    | _ => .bad) else .bad
section
variable {X : Cx} {O O' : List Nat} {W2 : Wd} {cls : Nat → Addr} {da db : Addr} {G0 H0 : Hp} {E : XK}
theorem de_callD2 {k : Nat} {x : Str} {n : Nat} {m : List PD → Dr → R (PD × Dr)} {e : Expr} {es : List Expr} {fa : Mx ⟨(Wdr cls da db).and W2, G0, H0, E⟩ (List PD)} {p pos : Pos} (F : FnD X.prog X.w X.K X.mg X.base cls k x n m) (hr : Room k X.A) (ha : DA X ⟨(Wdr cls da db).and W2, G0, H0, E⟩ O (e :: es) fa) (hg : Gl X x := by rfl)
    (hdb : (x == ("__debug__" : Str)) = false := by decide) (he : starEach (e :: es) X.env = (false, eval e X.env) :: starEach es X.env := by rfl) (hpl : (backTo pos (starEach es X.env)).any (·.1) = false := by rfl) : DE X ⟨(Wdr cls da db).and W2, G0, H0, E⟩ O (.Call (.Name x p) (e :: es) [] pos) (cCallD2 (t2 := W2.d) n m fa) := by
  obtain ⟨f, fd, ps, hF, hm, hk, hb⟩ := F.ex
  refine PE.imp (pe_call hF hr hg hm hk hb .nil passL ha hdb he hpl) fun σ H Q h => ?_
  obtain ⟨G, ρ, s, a, p⟩ := h
  refine rdA.then a p fun vs G1 H1 ds s1 a1 g1 rv p1 => ?_
  by_cases hl : ds.length = n ∧ ds.all (okT 0) = true
  · rw [if_pos hl] at p1
    rw [List.append_nil]
    refine ⟨da, db, G1, ds, s1.1, a1.sit.left, rv.zero hl.2, hl.1, ?_⟩
    cases e : m ds s1.1 with
    | bad => rw [e] at p1; exact p1.elim
    | exc c => rw [e] at p1; exact p1.elim
    | ok y =>
      obtain ⟨d, s'⟩ := y
      rw [e] at p1
      dsimp only at p1
      by_cases hd : isD d = true
      · rw [if_pos hd] at p1
        exact fun v G' H' g S rv => p1 v G' H' (g.weak fun _ z => .inl z) (a1.sit.joinL g S) (.inl (rv.dg (isD_tok hd)))
      · rw [if_neg hd] at p1; exact p1.elim
  · rw [if_neg hl] at p1; exact p1.elim
end
end DL

/-! the mirrors, printed by gen.py -/
namespace DL
open PySem PySem.Spec PyProof.Rows L2

def b_is_int {d : Type} : Env → d → R (Fl × d) :=
      (sRet (cAndV (cUn (pIsi "int") (cVar 0)) (cAndV (cUn pNot (cUn (pIsi "bool") (cVar 0))) (cChain pLe pLe (cVar 1) (cVar 0) (cVar 2)))))
def m_is_int : List PD → R PD := mBody 0 b_is_int
def b_counts {d : Type} : Env → d → R (Fl × d) :=
      (sSeq (sSet 2 (cCall pLen (aCons (cComp (iLst (cVar 0)) (bTup (bCons (bNm 3) (bCons (bNm 4) bNil))) [3, 4] (cAndT (cTest (cOp pGe (cVar 3) (cVar 1))) (cNotT (cTest (cVar 4)))) (cC (.int 1))) aNil)))
      (sRet (cTup (aCons (cVar 2) (aCons (cCall pLen (aCons (cComp (iLst (cVar 0)) (bTup (bCons (bNm 3) (bCons (bNm 4) bNil))) [3, 4] (cAndT (cTest (cOp pGe (cVar 3) (cVar 1))) (cTest (cVar 4))) (cC (.int 1))) aNil)) aNil)))))
def m_counts : List PD → R PD := mBody 3 b_counts
def b_scores_of {d : Type} : Env → d → R (Fl × d) :=
      (sRet (cUn pRev (cUn pSortSet (cComp (iLst (cVar 0)) (bTup (bCons (bNm 1) (bCons (bNm 2) bNil))) [1, 2] tYesD (cVar 1)))))
def m_scores_of : List PD → R PD := mBody 2 b_scores_of
def b__law_point {d : Type} : Env → d → R (Fl × d) :=
      (sSeq (sSet 2 (cComp (iLst (cVar 0)) (bTup (bCons (bNm 3) (bCons (bNm 4) bNil))) [3, 4] (cTest (cOp pGe (cVar 3) (cVar 1))) (cVar 4)))
      (sRet (cTup (aCons (cMeth pCount (cVar 2) (cC (.bool false))) (aCons (cMeth pCount (cVar 2) (cC (.bool true))) aNil)))))
def m__law_point : List PD → R PD := mBody 3 b__law_point
def b_is_thing {d : Type} : Env → d → R (Fl × d) :=
      (sSeq (sIf (cOrT (cNotT (cTest (cUn (pIsi "tuple") (cVar 0)))) (cTest (cOp pNe (cCall pLen (aCons (cVar 0) aNil)) (cC (.int 2)))))
      (sRet (cC (.bool false)))
      sNil)
      (sRet (cAndV (cCallF 3 m_is_int (aCons (cOp pIx (cVar 0) (cC (.int 0))) (aCons (cC (.int 0)) (aCons (cC (.int 99)) aNil)))) (cUn (pIsi "bool") (cOp pIx (cVar 0) (cC (.int 1)))))))
def m_is_thing : List PD → R PD := mBody 0 b_is_thing
def b_check_threshold {d : Type} : Env → d → R (Fl × d) :=
      (sIf (cNotT (cTest (cCallF 3 m_is_int (aCons (cVar 0) (aCons (cC (.int 0)) (aCons (cOp pAdd (cC (.int 99)) (cC (.int 1))) aNil))))))
      (sRaise 1)
      sNil)
def m_check_threshold : List PD → R PD := mBody 0 b_check_threshold
def b_is_points {d : Type} : Env → d → R (Fl × d) :=
      (sSeq (sIf (cOrT (cNotT (cTest (cUn (pIsi "list") (cVar 0)))) (cOrT (cNotT (cTest (cChain pLe pLe (cC (.int 2)) (cCall pLen (aCons (cVar 0) aNil)) (cOp pAdd (cC (.int 12)) (cC (.int 1)))))) (cTest (cOp pNe (cOp pIx (cVar 0) (cC (.int 0))) (cTup (aCons (cC (.int 0)) (aCons (cC (.int 0)) aNil)))))))
      (sRet (cC (.bool false)))
      sNil)
      (sSeq (sFor (iLst (cVar 0)) (bNm 1)
      (sIf (cOrT (cNotT (cTest (cUn (pIsi "tuple") (cVar 1)))) (cOrT (cTest (cOp pNe (cCall pLen (aCons (cVar 1) aNil)) (cC (.int 2)))) (cNotT (cTest (cCall pAll (aCons (cComp (iTp (cVar 1)) (bNm 4) [4] tYesD (cCallF 3 m_is_int (aCons (cVar 4) (aCons (cC (.int 0)) (aCons (cC (.int 12)) aNil))))) aNil))))))
      (sRet (cC (.bool false)))
      sNil))
      (sSeq (sFor (iZp (aCons (cVar 0) (aCons (cSl pSl (cVar 0) (oSome (cC (.int 1))) oNone) aNil))) (bTup (bCons (bNm 2) (bCons (bNm 3) bNil)))
      (sIf (cOrT (cTest (cOp pGt (cOp pIx (cVar 2) (cC (.int 0))) (cOp pIx (cVar 3) (cC (.int 0))))) (cOrT (cTest (cOp pGt (cOp pIx (cVar 2) (cC (.int 1))) (cOp pIx (cVar 3) (cC (.int 1))))) (cTest (cOp pEq (cVar 2) (cVar 3)))))
      (sRet (cC (.bool false)))
      sNil))
      (sRet (cOp pLe (cCall pSum (aCons (cOp pIx (cVar 0) (cUn pNeg (cC (.int 1)))) aNil)) (cC (.int 12)))))))
def m_is_points : List PD → R PD := mBody 4 b_is_points
def b_points_of {d : Type} : Env → d → R (Fl × d) :=
      (sRet (cOp pAdd (cLst (aCons (cTup (aCons (cC (.int 0)) (aCons (cC (.int 0)) aNil))) aNil)) (cComp (iLst (cCallF 1 m_scores_of (aCons (cVar 0) aNil))) (bNm 1) [1] tYesD (cCallF 2 m_counts (aCons (cVar 0) (aCons (cVar 1) aNil))))))
def m_points_of : List PD → R PD := mBody 1 b_points_of
def b__law_pick : Env → Dr → R (Fl × Dr) :=
      (sRet (cOp pIx (cVar 1) (cCallD 2 m__law_draw (aCons (cVar 0) (aCons (cCall pLen (aCons (cVar 1) aNil)) aNil)))))
def m__law_pick : List PD → Dr → R (PD × Dr) := mBodyD 0 b__law_pick
def b__law_curve {d : Type} : Env → d → R (Fl × d) :=
      (sSeq (sSetF 1 (fLst aNil))
      (sSeq (sFor (iRg3 (aCons (cC (.int 100)) (aCons (cOp pSub (cC (.int 0)) (cC (.int 1))) (aCons (cOp pSub (cC (.int 0)) (cC (.int 1))) aNil)))) (bNm 2)
      (sSeq (sSet 3 (cCallF 2 m__law_point (aCons (cVar 0) (aCons (cVar 2) aNil))))
      (sIf (cTest (cOp pNotIn (cVar 3) (cVar 1)))
      (sApp 1 (cVar 3))
      sNil)))
      (sRet (cVar 1))))
def m__law_curve : List PD → R PD := mBody 3 b__law_curve
def b_is_things {d : Type} : Env → d → R (Fl × d) :=
      (sSeq (sIf (cOrT (cNotT (cTest (cUn (pIsi "list") (cVar 0)))) (cNotT (cTest (cChain pLe pLe (cC (.int 1)) (cCall pLen (aCons (cVar 0) aNil)) (cC (.int 12))))))
      (sRet (cC (.bool false)))
      sNil)
      (sRet (cCall pAll (aCons (cComp (iLst (cVar 0)) (bNm 1) [1] tYesD (cCallF 1 m_is_thing (aCons (cVar 1) aNil))) aNil))))
def m_is_things : List PD → R PD := mBody 1 b_is_things
def b__law_things : Env → Dr → R (Fl × Dr) :=
      (sSeq (sSet 2 (cCallD 2 m__law_pick (aCons (cVar 0) (aCons (cLst (aCons (cC (.int 2)) (aCons (cC (.int 5)) (aCons (cC (.int 12)) (aCons (cC (.int 100)) aNil))))) aNil))))
      (sRet (cComp (iRg1 (aCons (cOp pAdd (cC (.int 1)) (cCallD 2 m__law_draw (aCons (cVar 0) (aCons (cVar 1) aNil)))) aNil)) (bNm 3) [3] tYesD (cTup (aCons (cCallD 2 m__law_draw (aCons (cVar 0) (aCons (cVar 2) aNil))) (aCons (cOp pEq (cCallD 2 m__law_draw (aCons (cVar 0) (aCons (cC (.int 2)) aNil))) (cC (.int 0))) aNil))))))
def m__law_things : List PD → Dr → R (PD × Dr) := mBodyD 2 b__law_things
def b_check_things {d : Type} : Env → d → R (Fl × d) :=
      (sIf (cNotT (cTest (cCallF 1 m_is_things (aCons (cVar 0) aNil))))
      (sRaise 0)
      sNil)
def m_check_things : List PD → R PD := mBody 0 b_check_things
def b_alarms_at {d : Type} : Env → d → R (Fl × d) :=
      (sSeq (sExpr (cCallF 1 m_check_things (aCons (cVar 0) aNil)))
      (sSeq (sExpr (cCallF 1 m_check_threshold (aCons (cVar 1) aNil)))
      (sRet (cCallF 2 m_counts (aCons (cVar 0) (aCons (cVar 1) aNil))))))
def m_alarms_at : List PD → R PD := mBody 0 b_alarms_at
def b_unlike_scores {d : Type} : Env → d → R (Fl × d) :=
      (sSeq (sExpr (cCallF 1 m_check_things (aCons (cVar 0) aNil)))
      (sRet (cCallF 1 m_scores_of (aCons (cVar 0) aNil))))
def m_unlike_scores : List PD → R PD := mBody 0 b_unlike_scores
def b_totals {d : Type} : Env → d → R (Fl × d) :=
      (sSeq (sExpr (cCallF 1 m_check_things (aCons (cVar 0) aNil)))
      (sRet (cCallF 2 m_counts (aCons (cVar 0) (aCons (cC (.int 0)) aNil)))))
def m_totals : List PD → R PD := mBody 0 b_totals
def b_curve {d : Type} : Env → d → R (Fl × d) :=
      (sSeq (sExpr (cCallF 1 m_check_things (aCons (cVar 0) aNil)))
      (sRet (cCallF 1 m_points_of (aCons (cVar 0) aNil))))
def m_curve : List PD → R PD := mBody 0 b_curve
def b_thresholds_for {d : Type} : Env → d → R (Fl × d) :=
      (sSeq (sExpr (cCallF 1 m_check_things (aCons (cVar 0) aNil)))
      (sSeq (sSet 2 (cComp (iRg1 (aCons (cC (.int 101)) aNil)) (bNm 3) [3] (cTest (cOp pEq (cCallF 2 m_counts (aCons (cVar 0) (aCons (cVar 3) aNil))) (cVar 1))) (cVar 3)))
      (sRet (cIf (cTest (cOp pNe (cVar 2) (cLst aNil))) (cTup (aCons (cOp pIx (cVar 2) (cC (.int 0))) (aCons (cOp pIx (cVar 2) (cUn pNeg (cC (.int 1)))) aNil))) (cC .none)))))
def m_thresholds_for : List PD → R PD := mBody 2 b_thresholds_for
def b_most_true {d : Type} : Env → d → R (Fl × d) :=
      (sSeq (sExpr (cCallF 1 m_check_things (aCons (cVar 0) aNil)))
      (sSeq (sIf (cNotT (cTest (cCallF 3 m_is_int (aCons (cVar 1) (aCons (cC (.int 0)) (aCons (cC (.int 12)) aNil))))))
      (sRaise 1)
      sNil)
      (sRet (cCall pMax (aCons (cComp (iLst (cCallF 1 m_points_of (aCons (cVar 0) aNil))) (bTup (bCons (bNm 2) (bCons (bNm 3) bNil))) [2, 3] (cTest (cOp pLe (cVar 2) (cVar 1))) (cVar 3)) aNil)))))
def m_most_true : List PD → R PD := mBody 2 b_most_true
def b_least_false {d : Type} : Env → d → R (Fl × d) :=
      (sSeq (sExpr (cCallF 1 m_check_things (aCons (cVar 0) aNil)))
      (sSeq (sIf (cNotT (cTest (cCallF 3 m_is_int (aCons (cVar 1) (aCons (cC (.int 0)) (aCons (cC (.int 12)) aNil))))))
      (sRaise 1)
      sNil)
      (sSeq (sSet 2 (cComp (iLst (cCallF 1 m_points_of (aCons (cVar 0) aNil))) (bTup (bCons (bNm 3) (bCons (bNm 4) bNil))) [3, 4] (cTest (cOp pGe (cVar 4) (cVar 1))) (cVar 3)))
      (sRet (cIf (cTest (cOp pNe (cVar 2) (cLst aNil))) (cCall pMin (aCons (cVar 2) aNil)) (cC .none))))))
def m_least_false : List PD → R PD := mBody 3 b_least_false
def b_common {d : Type} : Env → d → R (Fl × d) :=
      (sSeq (sPar 0 1 (aCons (cCall pAbs (aCons (cVar 0) aNil)) (aCons (cCall pAbs (aCons (cVar 1) aNil)) aNil)))
      (sSeq (sWhile (fuInt 1) (cTest (cOp pNe (cVar 1) (cC (.int 0))))
      (sPar 0 1 (aCons (cVar 1) (aCons (cOp pMod (cVar 0) (cVar 1)) aNil))))
      (sRet (cVar 0))))
def m_common : List PD → R PD := mBody 0 b_common
def b_outcomes {d : Type} : Env → d → R (Fl × d) :=
      (sSeq (sAsg (bTup (bCons (bNm 1) (bCons (bNm 2) (bCons (bNm 3) bNil)))) (cTup (aCons (cC (.int 0)) (aCons (cC (.int 0)) (aCons (cC (.int 0)) aNil)))))
      (sSeq (sFor (iLst (cVar 0)) (bTup (bCons (bNm 4) (bCons (bNm 5) bNil)))
      (sFor (iLst (cVar 0)) (bTup (bCons (bNm 6) (bCons (bNm 7) bNil)))
      (sIf (cAndT (cTest (cVar 5)) (cNotT (cTest (cVar 7))))
      (sSeq (sAug 1 (cIf (cTest (cOp pGt (cVar 4) (cVar 6))) (cC (.int 1)) (cC (.int 0))))
      (sSeq (sAug 2 (cIf (cTest (cOp pEq (cVar 4) (cVar 6))) (cC (.int 1)) (cC (.int 0))))
      (sAug 3 (cIf (cTest (cOp pLt (cVar 4) (cVar 6))) (cC (.int 1)) (cC (.int 0))))))
      sNil)))
      (sRet (cTup (aCons (cVar 1) (aCons (cVar 2) (aCons (cVar 3) aNil)))))))
def m_outcomes : List PD → R PD := mBody 7 b_outcomes
def b_double_area {d : Type} : Env → d → R (Fl × d) :=
      (sSeq (sSet 1 (cC (.int 0)))
      (sSeq (sFor (iZp (aCons (cVar 0) (aCons (cSl pSl (cVar 0) (oSome (cC (.int 1))) oNone) aNil))) (bTup (bCons (bNm 2) (bCons (bNm 3) bNil)))
      (sAug 1 (cOp pMul (cOp pSub (cOp pIx (cVar 3) (cC (.int 0))) (cOp pIx (cVar 2) (cC (.int 0)))) (cOp pAdd (cOp pIx (cVar 2) (cC (.int 1))) (cOp pIx (cVar 3) (cC (.int 1)))))))
      (sRet (cVar 1))))
def m_double_area : List PD → R PD := mBody 3 b_double_area
def b__law_true {d : Type} : Env → d → R (Fl × d) :=
      (sRet (cAndV (cUn (pIsi "bool") (cVar 0)) (cOp pEq (cVar 0) (cVar 1))))
def m__law_true : List PD → R PD := mBody 0 b__law_true
def b__law_low {d : Type} : Env → d → R (Fl × d) :=
      (sSeq (sPar 2 3 (aCons (cCall pAbs (aCons (cVar 0) aNil)) (aCons (cVar 1) aNil)))
      (sSeq (sWhile (fuInt 3) (cTest (cOp pNe (cVar 3) (cC (.int 0))))
      (sPar 2 3 (aCons (cVar 3) (aCons (cOp pMod (cVar 2) (cVar 3)) aNil))))
      (sRet (cTup (aCons (cOp pDiv (cVar 0) (cVar 2)) (aCons (cOp pDiv (cVar 1) (cVar 2)) aNil))))))
def m__law_low : List PD → R PD := mBody 2 b__law_low
def b__law_twice {d : Type} : Env → d → R (Fl × d) :=
      (sSeq (sSet 1 (cC (.int 0)))
      (sSeq (sFor (iRg1 (aCons (cOp pSub (cCall pLen (aCons (cVar 0) aNil)) (cC (.int 1))) aNil)) (bNm 2)
      (sSeq (sAsg (bTup (bCons (bTup (bCons (bNm 3) (bCons (bNm 4) bNil))) (bCons (bTup (bCons (bNm 5) (bCons (bNm 6) bNil))) bNil))) (cTup (aCons (cOp pIx (cVar 0) (cVar 2)) (aCons (cOp pIx (cVar 0) (cOp pAdd (cVar 2) (cC (.int 1)))) aNil))))
      (sSet 1 (cOp pAdd (cVar 1) (cOp pMul (cOp pSub (cVar 5) (cVar 3)) (cOp pAdd (cVar 4) (cVar 6)))))))
      (sRet (cVar 1))))
def m__law_twice : List PD → R PD := mBody 6 b__law_twice
def b_lowest {d : Type} : Env → d → R (Fl × d) :=
      (sSeq (sIf (cTest (cOp pLt (cVar 1) (cC (.int 0))))
      (sPar 0 1 (aCons (cUn pNeg (cVar 0)) (aCons (cUn pNeg (cVar 1)) aNil)))
      sNil)
      (sSeq (sSet 2 (cCallF 2 m_common (aCons (cVar 0) (aCons (cVar 1) aNil))))
      (sRet (cTup (aCons (cOp pDiv (cVar 0) (cVar 2)) (aCons (cOp pDiv (cVar 1) (cVar 2)) aNil))))))
def m_lowest : List PD → R PD := mBody 1 b_lowest
def b_check_points {d : Type} : Env → d → R (Fl × d) :=
      (sIf (cNotT (cTest (cCallF 1 m_is_points (aCons (cVar 0) aNil))))
      (sRaise 2)
      sNil)
def m_check_points : List PD → R PD := mBody 0 b_check_points
def b_check_both {d : Type} : Env → d → R (Fl × d) :=
      (sSeq (sExpr (cCallF 1 m_check_points (aCons (cVar 0) aNil)))
      (sSeq (sExpr (cCallF 1 m_check_points (aCons (cVar 1) aNil)))
      (sIf (cTest (cOp pNe (cOp pIx (cVar 0) (cUn pNeg (cC (.int 1)))) (cOp pIx (cVar 1) (cUn pNeg (cC (.int 1))))))
      (sRaise 2)
      sNil)))
def m_check_both : List PD → R PD := mBody 0 b_check_both
def b_pair_counts {d : Type} : Env → d → R (Fl × d) :=
      (sSeq (sExpr (cCallF 1 m_check_things (aCons (cVar 0) aNil)))
      (sRet (cCallF 1 m_outcomes (aCons (cVar 0) aNil))))
def m_pair_counts : List PD → R PD := mBody 0 b_pair_counts
def b_area {d : Type} : Env → d → R (Fl × d) :=
      (sSeq (sExpr (cCallF 1 m_check_things (aCons (cVar 0) aNil)))
      (sSeq (sSet 1 (cCallF 1 m_points_of (aCons (cVar 0) aNil)))
      (sSeq (sSet 2 (cOp pMul (cOp pIx (cOp pIx (cVar 1) (cUn pNeg (cC (.int 1)))) (cC (.int 0))) (cOp pIx (cOp pIx (cVar 1) (cUn pNeg (cC (.int 1)))) (cC (.int 1)))))
      (sSeq (sIf (cTest (cOp pEq (cVar 2) (cC (.int 0))))
      (sRaise 4)
      sNil)
      (sRet (cCallF 2 m_lowest (aCons (cCallF 1 m_double_area (aCons (cVar 1) aNil)) (aCons (cOp pMul (cC (.int 2)) (cVar 2)) aNil))))))))
def m_area : List PD → R PD := mBody 2 b_area
def b_in_order {d : Type} : Env → d → R (Fl × d) :=
      (sSeq (sExpr (cCallF 1 m_check_things (aCons (cVar 0) aNil)))
      (sSeq (sAsg (bTup (bCons (bNm 1) (bCons (bNm 2) (bCons (bNm 3) bNil)))) (cCallF 1 m_outcomes (aCons (cVar 0) aNil)))
      (sRet (cAndV (cOp pEq (cVar 2) (cC (.int 0))) (cOp pEq (cVar 3) (cC (.int 0)))))))
def m_in_order : List PD → R PD := mBody 3 b_in_order
def b_wrong_pairs {d : Type} : Env → d → R (Fl × d) :=
      (sSeq (sExpr (cCallF 1 m_check_things (aCons (cVar 0) aNil)))
      (sSeq (sSetF 1 (fLst aNil))
      (sSeq (sFor (iEn (cVar 0)) (bTup (bCons (bNm 2) (bCons (bTup (bCons (bNm 3) (bCons (bNm 4) bNil))) bNil)))
      (sFor (iEn (cVar 0)) (bTup (bCons (bNm 5) (bCons (bTup (bCons (bNm 6) (bCons (bNm 7) bNil))) bNil)))
      (sIf (cAndT (cTest (cVar 4)) (cAndT (cNotT (cTest (cVar 7))) (cTest (cOp pGe (cVar 6) (cVar 3)))))
      (sApp 1 (cTup (aCons (cVar 2) (aCons (cVar 5) aNil))))
      sNil)))
      (sRet (cVar 1)))))
def m_wrong_pairs : List PD → R PD := mBody 7 b_wrong_pairs
def b_area_difference {d : Type} : Env → d → R (Fl × d) :=
      (sSeq (sExpr (cCallF 2 m_check_both (aCons (cVar 0) (aCons (cVar 1) aNil))))
      (sRet (cOp pSub (cCallF 1 m_double_area (aCons (cVar 0) aNil)) (cCallF 1 m_double_area (aCons (cVar 1) aNil)))))
def m_area_difference : List PD → R PD := mBody 0 b_area_difference
def b_less {d : Type} : Env → d → R (Fl × d) :=
      (sRet (cOp pLt (cOp pMul (cOp pIx (cVar 0) (cC (.int 0))) (cOp pIx (cVar 1) (cC (.int 1)))) (cOp pMul (cOp pIx (cVar 1) (cC (.int 0))) (cOp pIx (cVar 0) (cC (.int 1))))))
def m_less : List PD → R PD := mBody 0 b_less
def b_way_turn {d : Type} : Env → d → R (Fl × d) :=
      (sSeq (sPar 3 4 (aCons (cOp pSub (cOp pIx (cVar 1) (cC (.int 0))) (cOp pIx (cVar 0) (cC (.int 0)))) (aCons (cOp pSub (cOp pIx (cVar 1) (cC (.int 1))) (cOp pIx (cVar 0) (cC (.int 1)))) aNil)))
      (sRet (cOp pSub (cOp pMul (cVar 3) (cOp pSub (cOp pIx (cVar 2) (cC (.int 1))) (cOp pIx (cVar 0) (cC (.int 1))))) (cOp pMul (cVar 4) (cOp pSub (cOp pIx (cVar 2) (cC (.int 0))) (cOp pIx (cVar 0) (cC (.int 0))))))))
def m_way_turn : List PD → R PD := mBody 2 b_way_turn
def b__law_below {d : Type} : Env → d → R (Fl × d) :=
      (sRet (cOp pLt (cOp pMul (cOp pIx (cVar 0) (cC (.int 0))) (cOp pIx (cVar 1) (cC (.int 1)))) (cOp pMul (cOp pIx (cVar 1) (cC (.int 0))) (cOp pIx (cVar 0) (cC (.int 1))))))
def m__law_below : List PD → R PD := mBody 0 b__law_below
def b_is_mean {d : Type} : Env → d → R (Fl × d) :=
      (sSeq (sIf (cOrT (cNotT (cTest (cUn (pIsi "tuple") (cVar 0)))) (cOrT (cTest (cOp pNe (cCall pLen (aCons (cVar 0) aNil)) (cC (.int 2)))) (cNotT (cTest (cCallF 3 m_is_int (aCons (cOp pIx (cVar 0) (cC (.int 1))) (aCons (cC (.int 1)) (aCons (cC (.int 1000)) aNil))))))))
      (sRet (cC (.bool false)))
      sNil)
      (sRet (cAndV (cCallF 3 m_is_int (aCons (cOp pIx (cVar 0) (cC (.int 0))) (aCons (cC (.int 0)) (aCons (cOp pMul (cVar 1) (cOp pIx (cVar 0) (cC (.int 1)))) aNil)))) (cOp pEq (cCallF 2 m_common (aCons (cOp pIx (cVar 0) (cC (.int 0))) (aCons (cOp pIx (cVar 0) (cC (.int 1))) aNil))) (cC (.int 1))))))
def m_is_mean : List PD → R PD := mBody 0 b_is_mean
def b_corners_of {d : Type} : Env → d → R (Fl × d) :=
      (sSeq (sSetF 1 (fLst aNil))
      (sSeq (sFor (iLst (cVar 0)) (bNm 2)
      (sSeq (sWhile (fuLen 1) (cAndT (cTest (cOp pGe (cCall pLen (aCons (cVar 1) aNil)) (cC (.int 2)))) (cTest (cOp pGe (cCallF 3 m_way_turn (aCons (cOp pIx (cVar 1) (cUn pNeg (cC (.int 2)))) (aCons (cOp pIx (cVar 1) (cUn pNeg (cC (.int 1)))) (aCons (cVar 2) aNil)))) (cC (.int 0)))))
      (sSetF 1 (fSl 1 oNone (oSome (cUn pNeg (cC (.int 1)))))))
      (sApp 1 (cVar 2))))
      (sRet (cVar 1))))
def m_corners_of : List PD → R PD := mBody 2 b_corners_of
def b__law_height {d : Type} : Env → d → R (Fl × d) :=
      (sSeq (sSet 2 (cTup (aCons (cC (.int 0)) (aCons (cC (.int 1)) aNil))))
      (sSeq (sFor (iLst (cVar 0)) (bTup (bCons (bNm 4) (bCons (bNm 5) bNil)))
      (sIf (cTest (cOp pEq (cOp pMul (cVar 4) (cOp pIx (cVar 1) (cC (.int 1)))) (cOp pIx (cVar 1) (cC (.int 0)))))
      (sSet 2 (cIf (cTest (cCallF 2 m__law_below (aCons (cVar 2) (aCons (cTup (aCons (cVar 5) (aCons (cC (.int 1)) aNil))) aNil)))) (cTup (aCons (cVar 5) (aCons (cC (.int 1)) aNil))) (cVar 2)))
      sNil))
      (sSeq (sFor (iRg1 (aCons (cOp pSub (cCall pLen (aCons (cVar 0) aNil)) (cC (.int 1))) aNil)) (bNm 3)
      (sSeq (sAsg (bTup (bCons (bTup (bCons (bNm 4) (bCons (bNm 5) bNil))) (bCons (bTup (bCons (bNm 7) (bCons (bNm 8) bNil))) bNil))) (cTup (aCons (cOp pIx (cVar 0) (cVar 3)) (aCons (cOp pIx (cVar 0) (cOp pAdd (cVar 3) (cC (.int 1)))) aNil))))
      (sIf (cTest (cChain pLt pLt (cOp pMul (cVar 4) (cOp pIx (cVar 1) (cC (.int 1)))) (cOp pIx (cVar 1) (cC (.int 0))) (cOp pMul (cVar 7) (cOp pIx (cVar 1) (cC (.int 1))))))
      (sSeq (sSet 6 (cCallF 2 m__law_low (aCons (cOp pAdd (cOp pMul (cOp pMul (cVar 5) (cOp pSub (cVar 7) (cVar 4))) (cOp pIx (cVar 1) (cC (.int 1)))) (cOp pMul (cOp pSub (cOp pIx (cVar 1) (cC (.int 0))) (cOp pMul (cVar 4) (cOp pIx (cVar 1) (cC (.int 1))))) (cOp pSub (cVar 8) (cVar 5)))) (aCons (cOp pMul (cOp pSub (cVar 7) (cVar 4)) (cOp pIx (cVar 1) (cC (.int 1)))) aNil))))
      (sSet 2 (cIf (cTest (cCallF 2 m__law_below (aCons (cVar 2) (aCons (cVar 6) aNil)))) (cVar 6) (cVar 2))))
      sNil)))
      (sRet (cVar 2)))))
def m__law_height : List PD → R PD := mBody 7 b__law_height
def b_height_of {d : Type} : Env → d → R (Fl × d) :=
      (sSeq (sSet 2 (cTup (aCons (cC (.int 0)) (aCons (cC (.int 1)) aNil))))
      (sSeq (sFor (iZp (aCons (cVar 0) (aCons (cSl pSl (cVar 0) (oSome (cC (.int 1))) oNone) aNil))) (bTup (bCons (bNm 3) (bCons (bNm 4) bNil)))
      (sIf (cTest (cChain pLe pLe (cOp pMul (cOp pIx (cVar 3) (cC (.int 0))) (cOp pIx (cVar 1) (cC (.int 1)))) (cOp pIx (cVar 1) (cC (.int 0))) (cOp pMul (cOp pIx (cVar 4) (cC (.int 0))) (cOp pIx (cVar 1) (cC (.int 1))))))
      (sSeq (sSet 5 (cOp pSub (cOp pIx (cVar 4) (cC (.int 0))) (cOp pIx (cVar 3) (cC (.int 0)))))
      (sSeq (sIf (cTest (cOp pEq (cVar 5) (cC (.int 0))))
      (sSet 6 (cTup (aCons (cOp pIx (cVar 4) (cC (.int 1))) (aCons (cC (.int 1)) aNil))))
      (sSeq (sSet 7 (cOp pAdd (cOp pMul (cOp pMul (cOp pIx (cVar 3) (cC (.int 1))) (cVar 5)) (cOp pIx (cVar 1) (cC (.int 1)))) (cOp pMul (cOp pSub (cOp pIx (cVar 1) (cC (.int 0))) (cOp pMul (cOp pIx (cVar 3) (cC (.int 0))) (cOp pIx (cVar 1) (cC (.int 1))))) (cOp pSub (cOp pIx (cVar 4) (cC (.int 1))) (cOp pIx (cVar 3) (cC (.int 1)))))))
      (sSet 6 (cCallF 2 m_lowest (aCons (cVar 7) (aCons (cOp pMul (cVar 5) (cOp pIx (cVar 1) (cC (.int 1)))) aNil))))))
      (sSet 2 (cIf (cTest (cCallF 2 m_less (aCons (cVar 2) (aCons (cVar 6) aNil)))) (cVar 6) (cVar 2)))))
      sNil))
      (sRet (cVar 2))))
def m_height_of : List PD → R PD := mBody 6 b_height_of
def b__law_top {d : Type} : Env → d → R (Fl × d) :=
      (sSeq (sSet 2 (cCallF 2 m__law_height (aCons (cVar 0) (aCons (cVar 1) aNil))))
      (sSeq (sFor (iLst (cVar 0)) (bTup (bCons (bNm 3) (bCons (bNm 4) bNil)))
      (sFor (iLst (cVar 0)) (bTup (bCons (bNm 5) (bCons (bNm 6) bNil)))
      (sIf (cTest (cChain pLt pLt (cOp pMul (cVar 3) (cOp pIx (cVar 1) (cC (.int 1)))) (cOp pIx (cVar 1) (cC (.int 0))) (cOp pMul (cVar 5) (cOp pIx (cVar 1) (cC (.int 1))))))
      (sSeq (sSet 7 (cCallF 2 m__law_low (aCons (cOp pAdd (cOp pMul (cOp pMul (cVar 4) (cOp pSub (cVar 5) (cVar 3))) (cOp pIx (cVar 1) (cC (.int 1)))) (cOp pMul (cOp pSub (cOp pIx (cVar 1) (cC (.int 0))) (cOp pMul (cVar 3) (cOp pIx (cVar 1) (cC (.int 1))))) (cOp pSub (cVar 6) (cVar 4)))) (aCons (cOp pMul (cOp pSub (cVar 5) (cVar 3)) (cOp pIx (cVar 1) (cC (.int 1)))) aNil))))
      (sSet 2 (cIf (cTest (cCallF 2 m__law_below (aCons (cVar 2) (aCons (cVar 7) aNil)))) (cVar 7) (cVar 2))))
      sNil)))
      (sRet (cVar 2))))
def m__law_top : List PD → R PD := mBody 6 b__law_top
def b_hull_of {d : Type} : Env → d → R (Fl × d) :=
      (sSeq (sExpr (cCallF 1 m_check_points (aCons (cVar 0) aNil)))
      (sRet (cCallF 1 m_corners_of (aCons (cVar 0) aNil))))
def m_hull_of : List PD → R PD := mBody 0 b_hull_of
def b_hull_height {d : Type} : Env → d → R (Fl × d) :=
      (sSeq (sExpr (cCallF 1 m_check_points (aCons (cVar 0) aNil)))
      (sSeq (sIf (cNotT (cTest (cCallF 2 m_is_mean (aCons (cVar 1) (aCons (cOp pIx (cOp pIx (cVar 0) (cUn pNeg (cC (.int 1)))) (cC (.int 0))) aNil)))))
      (sRaise 1)
      sNil)
      (sRet (cCallF 2 m_height_of (aCons (cCallF 1 m_corners_of (aCons (cVar 0) aNil)) (aCons (cVar 1) aNil))))))
def m_hull_height : List PD → R PD := mBody 0 b_hull_height
def b_things_with {d : Type} : Env → d → R (Fl × d) :=
      (sSeq (sExpr (cCallF 1 m_check_points (aCons (cVar 0) aNil)))
      (sSeq (sSetF 1 (fLst aNil))
      (sSeq (sFor (iRg1 (aCons (cOp pSub (cCall pLen (aCons (cVar 0) aNil)) (cC (.int 1))) aNil)) (bNm 2)
      (sSeq (sSet 3 (cOp pSub (cOp pSub (cCall pLen (aCons (cVar 0) aNil)) (cC (.int 1))) (cVar 2)))
      (sSeq (sPar 4 5 (aCons (cOp pSub (cOp pIx (cOp pIx (cVar 0) (cOp pAdd (cVar 2) (cC (.int 1)))) (cC (.int 0))) (cOp pIx (cOp pIx (cVar 0) (cVar 2)) (cC (.int 0)))) (aCons (cOp pSub (cOp pIx (cOp pIx (cVar 0) (cOp pAdd (cVar 2) (cC (.int 1)))) (cC (.int 1))) (cOp pIx (cOp pIx (cVar 0) (cVar 2)) (cC (.int 1)))) aNil)))
      (sAugL 1 (cOp pAdd (cOp pMul (cLst (aCons (cTup (aCons (cVar 3) (aCons (cC (.bool false)) aNil))) aNil)) (cVar 4)) (cOp pMul (cLst (aCons (cTup (aCons (cVar 3) (aCons (cC (.bool true)) aNil))) aNil)) (cVar 5)))))))
      (sRet (cVar 1)))))
def m_things_with : List PD → R PD := mBody 5 b_things_with
def b_hull {d : Type} : Env → d → R (Fl × d) :=
      (sSeq (sExpr (cCallF 1 m_check_things (aCons (cVar 0) aNil)))
      (sRet (cCallF 1 m_corners_of (aCons (cCallF 1 m_points_of (aCons (cVar 0) aNil)) aNil))))
def m_hull : List PD → R PD := mBody 0 b_hull
def b_waste {d : Type} : Env → d → R (Fl × d) :=
      (sSeq (sExpr (cCallF 1 m_check_things (aCons (cVar 0) aNil)))
      (sSeq (sSet 1 (cCallF 1 m_points_of (aCons (cVar 0) aNil)))
      (sRet (cOp pSub (cCallF 1 m_double_area (aCons (cCallF 1 m_corners_of (aCons (cVar 1) aNil)) aNil)) (cCallF 1 m_double_area (aCons (cVar 1) aNil))))))
def m_waste : List PD → R PD := mBody 1 b_waste
def b_is_bent {d : Type} : Env → d → R (Fl × d) :=
      (sSeq (sExpr (cCallF 1 m_check_things (aCons (cVar 0) aNil)))
      (sSeq (sSet 1 (cCallF 1 m_points_of (aCons (cVar 0) aNil)))
      (sRet (cOp pEq (cCallF 1 m_double_area (aCons (cCallF 1 m_corners_of (aCons (cVar 1) aNil)) aNil)) (cCallF 1 m_double_area (aCons (cVar 1) aNil))))))
def m_is_bent : List PD → R PD := mBody 1 b_is_bent
def b_check_cost {d : Type} : Env → d → R (Fl × d) :=
      (sIf (cNotT (cTest (cCallF 3 m_is_int (aCons (cVar 0) (aCons (cC (.int 0)) (aCons (cC (.int 1000)) aNil))))))
      (sRaise 1)
      sNil)
def m_check_cost : List PD → R PD := mBody 0 b_check_cost
def b_thresholds_of {d : Type} : Env → d → R (Fl × d) :=
      (sRet (cOp pAdd (cLst (aCons (cC (.int 100)) aNil)) (cCallF 1 m_scores_of (aCons (cVar 0) aNil))))
def m_thresholds_of : List PD → R PD := mBody 0 b_thresholds_of
def b_cost_of {d : Type} : Env → d → R (Fl × d) :=
      (sSeq (sAsg (bTup (bCons (bNm 4) (bCons (bNm 5) bNil))) (cCallF 2 m_counts (aCons (cVar 0) (aCons (cVar 1) aNil))))
      (sRet (cOp pAdd (cOp pMul (cVar 2) (cVar 4)) (cOp pMul (cVar 3) (cOp pSub (cOp pIx (cCallF 2 m_counts (aCons (cVar 0) (aCons (cC (.int 0)) aNil))) (cC (.int 1))) (cVar 5))))))
def m_cost_of : List PD → R PD := mBody 2 b_cost_of
def b_check_costs {d : Type} : Env → d → R (Fl × d) :=
      (sSeq (sExpr (cCallF 1 m_check_cost (aCons (cVar 0) aNil)))
      (sExpr (cCallF 1 m_check_cost (aCons (cVar 1) aNil))))
def m_check_costs : List PD → R PD := mBody 0 b_check_costs
def b_cost_at {d : Type} : Env → d → R (Fl × d) :=
      (sSeq (sExpr (cCallF 1 m_check_things (aCons (cVar 0) aNil)))
      (sSeq (sExpr (cCallF 1 m_check_threshold (aCons (cVar 1) aNil)))
      (sSeq (sExpr (cCallF 2 m_check_costs (aCons (cVar 2) (aCons (cVar 3) aNil))))
      (sRet (cCallF 4 m_cost_of (aCons (cVar 0) (aCons (cVar 1) (aCons (cVar 2) (aCons (cVar 3) aNil)))))))))
def m_cost_at : List PD → R PD := mBody 0 b_cost_at
def b_least_cost {d : Type} : Env → d → R (Fl × d) :=
      (sSeq (sExpr (cCallF 1 m_check_things (aCons (cVar 0) aNil)))
      (sSeq (sExpr (cCallF 2 m_check_costs (aCons (cVar 1) (aCons (cVar 2) aNil))))
      (sRet (cCall pMin (aCons (cComp (iLst (cCallF 1 m_thresholds_of (aCons (cVar 0) aNil))) (bNm 3) [3] tYesD (cCallF 4 m_cost_of (aCons (cVar 0) (aCons (cVar 3) (aCons (cVar 1) (aCons (cVar 2) aNil)))))) aNil)))))
def m_least_cost : List PD → R PD := mBody 1 b_least_cost
def b_best_points {d : Type} : Env → d → R (Fl × d) :=
      (sSeq (sExpr (cCallF 1 m_check_things (aCons (cVar 0) aNil)))
      (sSeq (sExpr (cCallF 2 m_check_costs (aCons (cVar 1) (aCons (cVar 2) aNil))))
      (sSeq (sSet 3 (cOp pIx (cCallF 2 m_counts (aCons (cVar 0) (aCons (cC (.int 0)) aNil))) (cC (.int 1))))
      (sSeq (sSet 4 (cCallF 1 m_points_of (aCons (cVar 0) aNil)))
      (sSeq (sSet 5 (cComp (iLst (cVar 4)) (bTup (bCons (bNm 6) (bCons (bNm 7) bNil))) [6, 7] tYesD (cOp pAdd (cOp pMul (cVar 1) (cVar 6)) (cOp pMul (cVar 2) (cOp pSub (cVar 3) (cVar 7))))))
      (sRet (cComp (iZp (aCons (cVar 4) (aCons (cVar 5) aNil))) (bTup (bCons (bNm 8) (bCons (bNm 9) bNil))) [8, 9] (cTest (cOp pEq (cVar 9) (cCall pMin (aCons (cVar 5) aNil)))) (cVar 8))))))))
def m_best_points : List PD → R PD := mBody 7 b_best_points
def b_best_thresholds {d : Type} : Env → d → R (Fl × d) :=
      (sSeq (sExpr (cCallF 1 m_check_things (aCons (cVar 0) aNil)))
      (sSeq (sExpr (cCallF 2 m_check_costs (aCons (cVar 1) (aCons (cVar 2) aNil))))
      (sSeq (sSet 3 (cComp (iRg1 (aCons (cC (.int 101)) aNil)) (bNm 4) [4] tYesD (cCallF 4 m_cost_of (aCons (cVar 0) (aCons (cVar 4) (aCons (cVar 1) (aCons (cVar 2) aNil)))))))
      (sRet (cComp (iRg1 (aCons (cC (.int 101)) aNil)) (bNm 4) [4] (cTest (cOp pEq (cOp pIx (cVar 3) (cVar 4)) (cCall pMin (aCons (cVar 3) aNil)))) (cVar 4))))))
def m_best_thresholds : List PD → R PD := mBody 2 b_best_thresholds
def b_cost_ranges {d : Type} : Env → d → R (Fl × d) :=
      (sSeq (sExpr (cCallF 1 m_check_things (aCons (cVar 0) aNil)))
      (sSeq (sSet 1 (cCallF 1 m_corners_of (aCons (cCallF 1 m_points_of (aCons (cVar 0) aNil)) aNil)))
      (sSeq (sSet 2 (cComp (iZp (aCons (cVar 1) (aCons (cSl pSl (cVar 1) (oSome (cC (.int 1))) oNone) aNil))) (bTup (bCons (bNm 6) (bCons (bNm 7) bNil))) [6, 7] tYesD (cTup (aCons (cOp pSub (cOp pIx (cVar 7) (cC (.int 0))) (cOp pIx (cVar 6) (cC (.int 0)))) (aCons (cOp pSub (cOp pIx (cVar 7) (cC (.int 1))) (cOp pIx (cVar 6) (cC (.int 1)))) aNil)))))
      (sSeq (sSetF 3 (fLst aNil))
      (sSeq (sFor (iEn (cVar 1)) (bTup (bCons (bNm 4) (bCons (bNm 5) bNil)))
      (sApp 3 (cTup (aCons (cVar 5) (aCons (cIf (cTest (cOp pGt (cVar 4) (cC (.int 0)))) (cOp pIx (cVar 2) (cOp pSub (cVar 4) (cC (.int 1)))) (cC .none)) (aCons (cIf (cTest (cOp pLt (cVar 4) (cCall pLen (aCons (cVar 2) aNil)))) (cOp pIx (cVar 2) (cVar 4)) (cC .none)) aNil))))))
      (sRet (cVar 3)))))))
def m_cost_ranges : List PD → R PD := mBody 7 b_cost_ranges
def b_is_ever_best {d : Type} : Env → d → R (Fl × d) :=
      (sSeq (sExpr (cCallF 1 m_check_things (aCons (cVar 0) aNil)))
      (sSeq (sSet 2 (cCallF 1 m_points_of (aCons (cVar 0) aNil)))
      (sSeq (sIf (cOrT (cNotT (cTest (cUn (pIsi "tuple") (cVar 1)))) (cTest (cOp pNotIn (cVar 1) (cVar 2))))
      (sRaise 4)
      sNil)
      (sSeq (sFor (iLst (cVar 2)) (bNm 3)
      (sSeq (sIf (cAndT (cTest (cOp pNe (cVar 3) (cVar 1))) (cAndT (cTest (cOp pLe (cOp pIx (cVar 3) (cC (.int 0))) (cOp pIx (cVar 1) (cC (.int 0))))) (cTest (cOp pGe (cOp pIx (cVar 3) (cC (.int 1))) (cOp pIx (cVar 1) (cC (.int 1)))))))
      (sRet (cC (.bool false)))
      sNil)
      (sFor (iLst (cVar 2)) (bNm 4)
      (sIf (cAndT (cTest (cChain pLt pLt (cOp pIx (cVar 3) (cC (.int 0))) (cOp pIx (cVar 1) (cC (.int 0))) (cOp pIx (cVar 4) (cC (.int 0))))) (cTest (cOp pGt (cCallF 3 m_way_turn (aCons (cVar 3) (aCons (cVar 1) (aCons (cVar 4) aNil)))) (cC (.int 0)))))
      (sRet (cC (.bool false)))
      sNil))))
      (sRet (cC (.bool true)))))))
def m_is_ever_best : List PD → R PD := mBody 3 b_is_ever_best
def b_miss_cost_for {d : Type} : Env → d → R (Fl × d) :=
      (sSeq (sExpr (cCallF 1 m_check_things (aCons (cVar 0) aNil)))
      (sSeq (sExpr (cCallF 1 m_check_cost (aCons (cVar 1) aNil)))
      (sSeq (sIf (cNotT (cTest (cCallF 3 m_is_int (aCons (cVar 2) (aCons (cC (.int 0)) (aCons (cC (.int 1000)) aNil))))))
      (sRaise 1)
      sNil)
      (sSeq (sSet 3 (cOp pIx (cCallF 2 m_counts (aCons (cVar 0) (aCons (cC (.int 0)) aNil))) (cC (.int 1))))
      (sSeq (sFor (iRg1 (aCons (cOp pAdd (cVar 2) (cC (.int 1))) aNil)) (bNm 4)
      (sSeq (sSet 5 (cCallF 1 m_points_of (aCons (cVar 0) aNil)))
      (sSeq (sSet 6 (cComp (iLst (cVar 5)) (bTup (bCons (bNm 7) (bCons (bNm 8) bNil))) [7, 8] tYesD (cOp pAdd (cOp pMul (cVar 1) (cVar 7)) (cOp pMul (cVar 4) (cOp pSub (cVar 3) (cVar 8))))))
      (sIf (cTest (cOp pEq (cCall pMax (aCons (cComp (iZp (aCons (cVar 5) (aCons (cVar 6) aNil))) (bTup (bCons (bTup (bCons (bNm 7) (bCons (bNm 8) bNil))) (bCons (bNm 9) bNil))) [9, 7, 8] (cTest (cOp pEq (cVar 9) (cCall pMin (aCons (cVar 6) aNil)))) (cVar 8)) aNil)) (cVar 3)))
      (sRet (cVar 4))
      sNil))))
      (sRet (cC .none)))))))
def m_miss_cost_for : List PD → R PD := mBody 7 b_miss_cost_for
def b_check_share {d : Type} : Env → d → R (Fl × d) :=
      (sSeq (sIf (cOrT (cNotT (cTest (cUn (pIsi "tuple") (cVar 0)))) (cOrT (cTest (cOp pNe (cCall pLen (aCons (cVar 0) aNil)) (cC (.int 2)))) (cNotT (cTest (cCallF 3 m_is_int (aCons (cOp pIx (cVar 0) (cC (.int 1))) (aCons (cC (.int 1)) (aCons (cC (.int 1000)) aNil))))))))
      (sRaise 1)
      sNil)
      (sIf (cOrT (cNotT (cTest (cCallF 3 m_is_int (aCons (cOp pIx (cVar 0) (cC (.int 0))) (aCons (cC (.int 0)) (aCons (cOp pIx (cVar 0) (cC (.int 1))) aNil)))))) (cTest (cOp pNe (cCallF 2 m_common (aCons (cOp pIx (cVar 0) (cC (.int 0))) (aCons (cOp pIx (cVar 0) (cC (.int 1))) aNil))) (cC (.int 1)))))
      (sRaise 1)
      sNil))
def m_check_share : List PD → R PD := mBody 0 b_check_share
def b_threshold_of {d : Type} : Env → d → R (Fl × d) :=
      (sSeq (sFor (iLst (cOp pAdd (cLst (aCons (cC (.int 100)) aNil)) (cCallF 1 m_scores_of (aCons (cVar 0) aNil)))) (bNm 2)
      (sIf (cTest (cOp pEq (cCallF 2 m_counts (aCons (cVar 0) (aCons (cVar 2) aNil))) (cVar 1)))
      (sRet (cVar 2))
      sNil))
      (sRet (cC (.int 100))))
def m_threshold_of : List PD → R PD := mBody 1 b_threshold_of
def b__law_add {d : Type} : Env → d → R (Fl × d) :=
      (sRet (cCallF 2 m__law_low (aCons (cOp pAdd (cOp pMul (cOp pIx (cVar 0) (cC (.int 0))) (cOp pIx (cVar 1) (cC (.int 1)))) (cOp pMul (cOp pIx (cVar 1) (cC (.int 0))) (cOp pIx (cVar 0) (cC (.int 1))))) (aCons (cOp pMul (cOp pIx (cVar 0) (cC (.int 1))) (cOp pIx (cVar 1) (cC (.int 1)))) aNil))))
def m__law_add : List PD → R PD := mBody 0 b__law_add
def b__law_mean {d : Type} : Env → d → R (Fl × d) :=
      (sSeq (sAsg (bTup (bCons (bNm 3) (bCons (bNm 4) bNil))) (cVar 2))
      (sRet (cCall pTuple (aCons (cComp (iTp (cTup (aCons (cC (.int 0)) (aCons (cC (.int 1)) aNil)))) (bNm 5) [5] tYesD (cCallF 2 m__law_low (aCons (cOp pAdd (cOp pMul (cOp pIx (cVar 0) (cVar 5)) (cVar 3)) (cOp pMul (cOp pIx (cVar 1) (cVar 5)) (cOp pSub (cVar 4) (cVar 3)))) (aCons (cVar 4) aNil)))) aNil))))
def m__law_mean : List PD → R PD := mBody 3 b__law_mean
def b_plus {d : Type} : Env → d → R (Fl × d) :=
      (sRet (cCallF 2 m_lowest (aCons (cOp pAdd (cOp pMul (cOp pIx (cVar 0) (cC (.int 0))) (cOp pIx (cVar 1) (cC (.int 1)))) (cOp pMul (cOp pIx (cVar 1) (cC (.int 0))) (cOp pIx (cVar 0) (cC (.int 1))))) (aCons (cOp pMul (cOp pIx (cVar 0) (cC (.int 1))) (cOp pIx (cVar 1) (cC (.int 1)))) aNil))))
def m_plus : List PD → R PD := mBody 0 b_plus
def b_product {d : Type} : Env → d → R (Fl × d) :=
      (sRet (cCallF 2 m_lowest (aCons (cOp pMul (cOp pIx (cVar 0) (cC (.int 0))) (cOp pIx (cVar 1) (cC (.int 0)))) (aCons (cOp pMul (cOp pIx (cVar 0) (cC (.int 1))) (cOp pIx (cVar 1) (cC (.int 1)))) aNil))))
def m_product : List PD → R PD := mBody 0 b_product
def b_check_mean {d : Type} : Env → d → R (Fl × d) :=
      (sIf (cNotT (cTest (cCallF 2 m_is_mean (aCons (cVar 0) (aCons (cVar 1) aNil)))))
      (sRaise 1)
      sNil)
def m_check_mean : List PD → R PD := mBody 0 b_check_mean
def b_mean_point {d : Type} : Env → d → R (Fl × d) :=
      (sSeq (sSet 3 (cTup (aCons (cOp pSub (cOp pIx (cVar 2) (cC (.int 1))) (cOp pIx (cVar 2) (cC (.int 0)))) (aCons (cOp pIx (cVar 2) (cC (.int 1))) aNil))))
      (sRet (cCall pTuple (aCons (cComp (iTp (cTup (aCons (cC (.int 0)) (aCons (cC (.int 1)) aNil)))) (bNm 4) [4] tYesD (cCallF 2 m_plus (aCons (cCallF 2 m_product (aCons (cTup (aCons (cOp pIx (cVar 0) (cVar 4)) (aCons (cC (.int 1)) aNil))) (aCons (cVar 2) aNil))) (aCons (cCallF 2 m_product (aCons (cTup (aCons (cOp pIx (cVar 1) (cVar 4)) (aCons (cC (.int 1)) aNil))) (aCons (cVar 3) aNil))) aNil)))) aNil))))
def m_mean_point : List PD → R PD := mBody 2 b_mean_point
def b_mixed_alarms {d : Type} : Env → d → R (Fl × d) :=
      (sSeq (sExpr (cCallF 1 m_check_things (aCons (cVar 0) aNil)))
      (sSeq (sIf (cOrT (cNotT (cTest (cCallF 3 m_is_int (aCons (cVar 1) (aCons (cC (.int 0)) (aCons (cC (.int 100)) aNil)))))) (cNotT (cTest (cCallF 3 m_is_int (aCons (cVar 2) (aCons (cC (.int 0)) (aCons (cC (.int 100)) aNil)))))))
      (sRaise 1)
      sNil)
      (sSeq (sExpr (cCallF 1 m_check_share (aCons (cVar 3) aNil)))
      (sRet (cCallF 3 m_mean_point (aCons (cCallF 2 m_counts (aCons (cVar 0) (aCons (cVar 1) aNil))) (aCons (cCallF 2 m_counts (aCons (cVar 0) (aCons (cVar 2) aNil))) (aCons (cVar 3) aNil))))))))
def m_mixed_alarms : List PD → R PD := mBody 0 b_mixed_alarms
def b_best_true {d : Type} : Env → d → R (Fl × d) :=
      (sSeq (sExpr (cCallF 1 m_check_things (aCons (cVar 0) aNil)))
      (sSeq (sExpr (cCallF 2 m_check_mean (aCons (cVar 1) (aCons (cOp pIx (cCallF 2 m_counts (aCons (cVar 0) (aCons (cC (.int 0)) aNil))) (cC (.int 0))) aNil))))
      (sRet (cCallF 2 m_height_of (aCons (cCallF 1 m_corners_of (aCons (cCallF 1 m_points_of (aCons (cVar 0) aNil)) aNil)) (aCons (cVar 1) aNil))))))
def m_best_true : List PD → R PD := mBody 0 b_best_true
def b_best_mixture {d : Type} : Env → d → R (Fl × d) :=
      (sSeq (sExpr (cCallF 1 m_check_things (aCons (cVar 0) aNil)))
      (sSeq (sExpr (cCallF 2 m_check_mean (aCons (cVar 1) (aCons (cOp pIx (cCallF 2 m_counts (aCons (cVar 0) (aCons (cC (.int 0)) aNil))) (cC (.int 0))) aNil))))
      (sSeq (sSet 2 (cCallF 1 m_corners_of (aCons (cCallF 1 m_points_of (aCons (cVar 0) aNil)) aNil)))
      (sSeq (sSet 3 (cCallF 2 m_height_of (aCons (cVar 2) (aCons (cVar 1) aNil))))
      (sSeq (sFor (iZp (aCons (cVar 2) (aCons (cSl pSl (cVar 2) (oSome (cC (.int 1))) oNone) aNil))) (bTup (bCons (bNm 4) (bCons (bNm 5) bNil)))
      (sIf (cTest (cChain pLe pLe (cOp pMul (cOp pIx (cVar 4) (cC (.int 0))) (cOp pIx (cVar 1) (cC (.int 1)))) (cOp pIx (cVar 1) (cC (.int 0))) (cOp pMul (cOp pIx (cVar 5) (cC (.int 0))) (cOp pIx (cVar 1) (cC (.int 1))))))
      (sSeq (sSet 6 (cOp pSub (cOp pIx (cVar 5) (cC (.int 0))) (cOp pIx (cVar 4) (cC (.int 0)))))
      (sSeq (sSet 7 (cIf (cTest (cOp pEq (cVar 6) (cC (.int 0)))) (cTup (aCons (cC (.int 0)) (aCons (cC (.int 1)) aNil))) (cCallF 2 m_lowest (aCons (cOp pSub (cOp pMul (cOp pIx (cVar 5) (cC (.int 0))) (cOp pIx (cVar 1) (cC (.int 1)))) (cOp pIx (cVar 1) (cC (.int 0)))) (aCons (cOp pMul (cVar 6) (cOp pIx (cVar 1) (cC (.int 1)))) aNil)))))
      (sIf (cTest (cOp pEq (cOp pIx (cCallF 3 m_mean_point (aCons (cVar 4) (aCons (cVar 5) (aCons (cVar 7) aNil)))) (cC (.int 1))) (cVar 3)))
      (sRet (cTup (aCons (cCallF 2 m_threshold_of (aCons (cVar 0) (aCons (cVar 4) aNil))) (aCons (cCallF 2 m_threshold_of (aCons (cVar 0) (aCons (cVar 5) aNil))) (aCons (cVar 7) aNil)))))
      sNil)))
      sNil))
      (sRet (cTup (aCons (cC (.int 100)) (aCons (cC (.int 100)) (aCons (cTup (aCons (cC (.int 1)) (aCons (cC (.int 1)) aNil))) aNil))))))))))
def m_best_mixture : List PD → R PD := mBody 6 b_best_mixture
def b_gain {d : Type} : Env → d → R (Fl × d) :=
      (sSeq (sExpr (cCallF 1 m_check_things (aCons (cVar 0) aNil)))
      (sSeq (sExpr (cCallF 2 m_check_mean (aCons (cVar 1) (aCons (cOp pIx (cCallF 2 m_counts (aCons (cVar 0) (aCons (cC (.int 0)) aNil))) (cC (.int 0))) aNil))))
      (sSeq (sSet 2 (cCallF 2 m_height_of (aCons (cCallF 1 m_corners_of (aCons (cCallF 1 m_points_of (aCons (cVar 0) aNil)) aNil)) (aCons (cVar 1) aNil))))
      (sSeq (sSet 3 (cCall pMax (aCons (cComp (iLst (cCallF 1 m_points_of (aCons (cVar 0) aNil))) (bTup (bCons (bNm 4) (bCons (bNm 5) bNil))) [4, 5] (cNotT (cTest (cCallF 2 m_less (aCons (cVar 1) (aCons (cTup (aCons (cVar 4) (aCons (cC (.int 1)) aNil))) aNil))))) (cVar 5)) aNil)))
      (sRet (cCallF 2 m_plus (aCons (cVar 2) (aCons (cTup (aCons (cUn pNeg (cVar 3)) (aCons (cC (.int 1)) aNil))) aNil))))))))
def m_gain : List PD → R PD := mBody 4 b_gain
def b_falls {d : Type} : Env → d → R (Fl × d) :=
      (sRet (cOp pLt (cOp pMul (cOp pIx (cVar 1) (cC (.int 3))) (cOp pAdd (cOp pIx (cVar 0) (cC (.int 2))) (cOp pIx (cVar 0) (cC (.int 3))))) (cOp pMul (cOp pIx (cVar 0) (cC (.int 3))) (cOp pAdd (cOp pIx (cVar 1) (cC (.int 2))) (cOp pIx (cVar 1) (cC (.int 3)))))))
def m_falls : List PD → R PD := mBody 0 b_falls
def b_put_together {d : Type} : Env → d → R (Fl × d) :=
      (sRet (cLst (aCons (cOp pIx (cVar 1) (cC (.int 0))) (aCons (cOp pIx (cVar 0) (cC (.int 1))) (aCons (cOp pAdd (cOp pIx (cVar 0) (cC (.int 2))) (cOp pIx (cVar 1) (cC (.int 2)))) (aCons (cOp pAdd (cOp pIx (cVar 0) (cC (.int 3))) (cOp pIx (cVar 1) (cC (.int 3)))) aNil))))))
def m_put_together : List PD → R PD := mBody 0 b_put_together
def b__law_wrong {d : Type} : Env → d → R (Fl × d) :=
      (sSeq (sSetF 1 (fLst aNil))
      (sSeq (sFor (iRg1 (aCons (cOp pSub (cCall pLen (aCons (cVar 0) aNil)) (cC (.int 1))) aNil)) (bNm 2)
      (sSeq (sPar 3 4 (aCons (cOp pIx (cVar 0) (cVar 2)) (aCons (cOp pIx (cVar 0) (cOp pAdd (cVar 2) (cC (.int 1)))) aNil)))
      (sIf (cTest (cOp pGe (cOp pMul (cOp pIx (cVar 4) (cC (.int 3))) (cOp pAdd (cOp pIx (cVar 3) (cC (.int 2))) (cOp pIx (cVar 3) (cC (.int 3))))) (cOp pMul (cOp pIx (cVar 3) (cC (.int 3))) (cOp pAdd (cOp pIx (cVar 4) (cC (.int 2))) (cOp pIx (cVar 4) (cC (.int 3)))))))
      (sApp 1 (cVar 2))
      sNil)))
      (sRet (cVar 1))))
def m__law_wrong : List PD → R PD := mBody 4 b__law_wrong
def b_levels {d : Type} : Env → d → R (Fl × d) :=
      (sSeq (sSetF 1 (fLst aNil))
      (sSeq (sSet 2 (cTup (aCons (cC (.int 0)) (aCons (cC (.int 0)) aNil))))
      (sSeq (sFor (iLst (cCallF 1 m_scores_of (aCons (cVar 0) aNil))) (bNm 3)
      (sSeq (sSet 4 (cCallF 2 m_counts (aCons (cVar 0) (aCons (cVar 3) aNil))))
      (sSeq (sApp 1 (cLst (aCons (cVar 3) (aCons (cVar 3) (aCons (cOp pSub (cOp pIx (cVar 4) (cC (.int 0))) (cOp pIx (cVar 2) (cC (.int 0)))) (aCons (cOp pSub (cOp pIx (cVar 4) (cC (.int 1))) (cOp pIx (cVar 2) (cC (.int 1)))) aNil))))))
      (sSet 2 (cVar 4)))))
      (sRet (cVar 1)))))
def m_levels : List PD → R PD := mBody 4 b_levels
def b_pooled {d : Type} : Env → d → R (Fl × d) :=
      (sSeq (sSetF 1 (fLst aNil))
      (sSeq (sFor (iLst (cCallF 1 m_levels (aCons (cVar 0) aNil))) (bNm 2)
      (sSeq (sApp 1 (cVar 2))
      (sWhile (fuLen 1) (cAndT (cTest (cOp pGe (cCall pLen (aCons (cVar 1) aNil)) (cC (.int 2)))) (cNotT (cTest (cCallF 2 m_falls (aCons (cOp pIx (cVar 1) (cUn pNeg (cC (.int 2)))) (aCons (cOp pIx (cVar 1) (cUn pNeg (cC (.int 1)))) aNil))))))
      (sSetF 1 (fCat (cSl pSl (cVar 1) oNone (oSome (cUn pNeg (cC (.int 2))))) (cLst (aCons (cCallF 2 m_put_together (aCons (cOp pIx (cVar 1) (cUn pNeg (cC (.int 2)))) (aCons (cOp pIx (cVar 1) (cUn pNeg (cC (.int 1)))) aNil))) aNil)))))))
      (sRet (cVar 1))))
def m_pooled : List PD → R PD := mBody 2 b_pooled
def b_pools {d : Type} : Env → d → R (Fl × d) :=
      (sSeq (sExpr (cCallF 1 m_check_things (aCons (cVar 0) aNil)))
      (sRet (cComp (iLst (cCallF 1 m_pooled (aCons (cVar 0) aNil))) (bNm 1) [1] tYesD (cCall pTuple (aCons (cVar 1) aNil)))))
def m_pools : List PD → R PD := mBody 1 b_pools
def b_share_of {d : Type} : Env → d → R (Fl × d) :=
      (sSeq (sExpr (cCallF 1 m_check_things (aCons (cVar 0) aNil)))
      (sSeq (sIf (cOrT (cNotT (cTest (cCallF 3 m_is_int (aCons (cVar 1) (aCons (cC (.int 0)) (aCons (cC (.int 99)) aNil)))))) (cTest (cOp pNotIn (cVar 1) (cCallF 1 m_scores_of (aCons (cVar 0) aNil)))))
      (sRet (cC .none))
      sNil)
      (sSeq (sSet 2 (cOp pIx (cComp (iLst (cCallF 1 m_pooled (aCons (cVar 0) aNil))) (bNm 3) [3] (cTest (cChain pLe pLe (cOp pIx (cVar 3) (cC (.int 0))) (cVar 1) (cOp pIx (cVar 3) (cC (.int 1))))) (cVar 3)) (cC (.int 0))))
      (sRet (cCallF 2 m_lowest (aCons (cOp pIx (cVar 2) (cC (.int 3))) (aCons (cOp pAdd (cOp pIx (cVar 2) (cC (.int 2))) (cOp pIx (cVar 2) (cC (.int 3)))) aNil)))))))
def m_share_of : List PD → R PD := mBody 2 b_share_of
def b_squared_error {d : Type} : Env → d → R (Fl × d) :=
      (sSeq (sExpr (cCallF 1 m_check_things (aCons (cVar 0) aNil)))
      (sSeq (sSet 1 (cTup (aCons (cC (.int 0)) (aCons (cC (.int 1)) aNil))))
      (sSeq (sFor (iLst (cCallF 1 m_pooled (aCons (cVar 0) aNil))) (bTup (bCons (bNm 2) (bCons (bNm 3) (bCons (bNm 4) (bCons (bNm 5) bNil)))))
      (sSeq (sSet 6 (cCallF 2 m_lowest (aCons (cOp pMul (cVar 5) (cVar 4)) (aCons (cOp pAdd (cVar 4) (cVar 5)) aNil))))
      (sSet 1 (cCallF 2 m_lowest (aCons (cOp pAdd (cOp pMul (cOp pIx (cVar 1) (cC (.int 0))) (cOp pIx (cVar 6) (cC (.int 1)))) (cOp pMul (cOp pIx (cVar 6) (cC (.int 0))) (cOp pIx (cVar 1) (cC (.int 1))))) (aCons (cOp pMul (cOp pIx (cVar 1) (cC (.int 1))) (cOp pIx (cVar 6) (cC (.int 1)))) aNil))))))
      (sRet (cVar 1)))))
def m_squared_error : List PD → R PD := mBody 6 b_squared_error
def b_is_pooled {d : Type} : Env → d → R (Fl × d) :=
      (sSeq (sExpr (cCallF 1 m_check_things (aCons (cVar 0) aNil)))
      (sRet (cOp pEq (cCall pLen (aCons (cCallF 1 m_pooled (aCons (cVar 0) aNil)) aNil)) (cCall pLen (aCons (cCallF 1 m_scores_of (aCons (cVar 0) aNil)) aNil)))))
def m_is_pooled : List PD → R PD := mBody 0 b_is_pooled
def b_shares {d : Type} : Env → d → R (Fl × d) :=
      (sSeq (sExpr (cCallF 1 m_check_things (aCons (cVar 0) aNil)))
      (sRet (cComp (iLst (cVar 0)) (bTup (bCons (bNm 1) (bCons (bNm 2) bNil))) [1, 2] tYesD (cCallF 2 m_share_of (aCons (cVar 0) (aCons (cVar 1) aNil))))))
def m_shares : List PD → R PD := mBody 2 b_shares
def b__law_minus {d : Type} : Env → d → R (Fl × d) :=
      (sRet (cTup (aCons (cOp pSub (cC (.int 0)) (cOp pIx (cVar 0) (cC (.int 0)))) (aCons (cOp pIx (cVar 0) (cC (.int 1))) aNil))))
def m__law_minus : List PD → R PD := mBody 0 b__law_minus
def b_height {d : Type} : Env → d → R (Fl × d) :=
      (sSeq (sSet 2 (cTup (aCons (cC (.int 0)) (aCons (cC (.int 1)) aNil))))
      (sSeq (sFor (iZp (aCons (cVar 0) (aCons (cSl pSl (cVar 0) (oSome (cC (.int 1))) oNone) aNil))) (bTup (bCons (bNm 3) (bCons (bNm 4) bNil)))
      (sIf (cTest (cChain pLe pLe (cOp pMul (cOp pIx (cVar 3) (cC (.int 0))) (cOp pIx (cVar 1) (cC (.int 1)))) (cOp pIx (cVar 1) (cC (.int 0))) (cOp pMul (cOp pIx (cVar 4) (cC (.int 0))) (cOp pIx (cVar 1) (cC (.int 1))))))
      (sSeq (sSet 5 (cOp pSub (cOp pIx (cVar 4) (cC (.int 0))) (cOp pIx (cVar 3) (cC (.int 0)))))
      (sSeq (sIf (cTest (cOp pEq (cVar 5) (cC (.int 0))))
      (sSet 6 (cTup (aCons (cOp pIx (cVar 4) (cC (.int 1))) (aCons (cC (.int 1)) aNil))))
      (sSet 6 (cCallF 2 m_lowest (aCons (cOp pAdd (cOp pMul (cOp pMul (cOp pIx (cVar 3) (cC (.int 1))) (cVar 5)) (cOp pIx (cVar 1) (cC (.int 1)))) (cOp pMul (cOp pSub (cOp pIx (cVar 1) (cC (.int 0))) (cOp pMul (cOp pIx (cVar 3) (cC (.int 0))) (cOp pIx (cVar 1) (cC (.int 1))))) (cOp pSub (cOp pIx (cVar 4) (cC (.int 1))) (cOp pIx (cVar 3) (cC (.int 1)))))) (aCons (cOp pMul (cVar 5) (cOp pIx (cVar 1) (cC (.int 1)))) aNil)))))
      (sSet 2 (cIf (cTest (cCallF 2 m_less (aCons (cVar 2) (aCons (cVar 6) aNil)))) (cVar 6) (cVar 2)))))
      sNil))
      (sRet (cVar 2))))
def m_height : List PD → R PD := mBody 5 b_height
def b_height_ahead {d : Type} : Env → d → R (Fl × d) :=
      (sSeq (sSet 2 (cComp (iLst (cVar 0)) (bTup (bCons (bNm 3) (bCons (bNm 4) bNil))) [3, 4] (cTest (cOp pEq (cVar 3) (cVar 1))) (cTup (aCons (cVar 4) (aCons (cC (.int 1)) aNil)))))
      (sRet (cIf (cTest (cOp pNe (cVar 2) (cLst aNil))) (cOp pIx (cVar 2) (cC (.int 0))) (cCallF 2 m_height (aCons (cVar 0) (aCons (cTup (aCons (cVar 1) (aCons (cC (.int 1)) aNil))) aNil))))))
def m_height_ahead : List PD → R PD := mBody 3 b_height_ahead
def b_is_above {d : Type} : Env → d → R (Fl × d) :=
      (sSeq (sExpr (cCallF 2 m_check_both (aCons (cVar 0) (aCons (cVar 1) aNil))))
      (sSeq (sFor (iRg1 (aCons (cOp pAdd (cOp pIx (cOp pIx (cVar 0) (cUn pNeg (cC (.int 1)))) (cC (.int 0))) (cC (.int 1))) aNil)) (bNm 2)
      (sSeq (sIf (cTest (cCallF 2 m_less (aCons (cCallF 2 m_height (aCons (cVar 0) (aCons (cTup (aCons (cVar 2) (aCons (cC (.int 1)) aNil))) aNil))) (aCons (cCallF 2 m_height (aCons (cVar 1) (aCons (cTup (aCons (cVar 2) (aCons (cC (.int 1)) aNil))) aNil))) aNil))))
      (sRet (cC (.bool false)))
      sNil)
      (sIf (cAndT (cTest (cOp pGt (cVar 2) (cC (.int 0)))) (cTest (cCallF 2 m_less (aCons (cCallF 2 m_height_ahead (aCons (cVar 0) (aCons (cVar 2) aNil))) (aCons (cCallF 2 m_height_ahead (aCons (cVar 1) (aCons (cVar 2) aNil))) aNil)))))
      (sRet (cC (.bool false)))
      sNil)))
      (sRet (cC (.bool true)))))
def m_is_above : List PD → R PD := mBody 1 b_is_above
def b_first_below {d : Type} : Env → d → R (Fl × d) :=
      (sSeq (sExpr (cCallF 2 m_check_both (aCons (cVar 0) (aCons (cVar 1) aNil))))
      (sSeq (sFor (iRg1 (aCons (cOp pAdd (cOp pIx (cOp pIx (cVar 0) (cUn pNeg (cC (.int 1)))) (cC (.int 0))) (cC (.int 1))) aNil)) (bNm 2)
      (sIf (cTest (cCallF 2 m_less (aCons (cCallF 2 m_height (aCons (cVar 0) (aCons (cTup (aCons (cVar 2) (aCons (cC (.int 1)) aNil))) aNil))) (aCons (cCallF 2 m_height (aCons (cVar 1) (aCons (cTup (aCons (cVar 2) (aCons (cC (.int 1)) aNil))) aNil))) aNil))))
      (sRet (cVar 2))
      sNil))
      (sRet (cC .none))))
def m_first_below : List PD → R PD := mBody 1 b_first_below
def b__law_areas {d : Type} : Env → d → R (Fl × d) :=
      (sSeq (sSet 5 (cCallF 2 m_area_difference (aCons (cVar 2) (aCons (cVar 3) aNil))))
      (sSeq (sIf (cTest (cOp pNe (cVar 5) (cOp pAdd (cOp pMul (cCallF 2 m_area_difference (aCons (cVar 3) (aCons (cLst (aCons (cTup (aCons (cC (.int 0)) (aCons (cC (.int 0)) aNil))) (aCons (cOp pIx (cVar 2) (cUn pNeg (cC (.int 1)))) aNil))) aNil))) (cOp pSub (cC (.int 0)) (cC (.int 1)))) (cCallF 2 m_area_difference (aCons (cVar 2) (aCons (cLst (aCons (cTup (aCons (cC (.int 0)) (aCons (cC (.int 0)) aNil))) (aCons (cOp pIx (cVar 2) (cUn pNeg (cC (.int 1)))) aNil))) aNil))))))
      (sRet (cC (.bool false)))
      sNil)
      (sSeq (sIf (cOrT (cAndT (cTest (cVar 4)) (cTest (cOp pLt (cVar 5) (cC (.int 0))))) (cOrT (cTest (cOp pIsNot (cCallF 2 m_is_above (aCons (cCallF 1 m_hull (aCons (cVar 0) aNil)) (aCons (cVar 2) aNil))) (cC (.bool true)))) (cTest (cOp pIsNot (cCallF 2 m_is_above (aCons (cVar 2) (aCons (cVar 2) aNil))) (cC (.bool true))))))
      (sRet (cC (.bool false)))
      sNil)
      (sSeq (sIf (cAndT (cTest (cOp pIs (cCallF 2 m_is_above (aCons (cVar 2) (aCons (cVar 3) aNil))) (cC (.bool true)))) (cAndT (cTest (cOp pIs (cCallF 2 m_is_above (aCons (cVar 3) (aCons (cVar 2) aNil))) (cC (.bool true)))) (cTest (cOp pNe (cVar 5) (cC (.int 0))))))
      (sRet (cC (.bool false)))
      sNil)
      (sSeq (sAsg (bTup (bCons (bNm 6) (bCons (bNm 7) (bCons (bNm 8) bNil)))) (cCallF 1 m_pair_counts (aCons (cVar 0) aNil)))
      (sSeq (sAsg (bTup (bCons (bNm 9) (bCons (bNm 10) (bCons (bNm 11) bNil)))) (cCallF 1 m_pair_counts (aCons (cVar 1) aNil)))
      (sRet (cAndV (cOp pEq (cVar 5) (cOp pSub (cOp pSub (cOp pAdd (cOp pMul (cC (.int 2)) (cVar 6)) (cVar 7)) (cOp pMul (cC (.int 2)) (cVar 9))) (cVar 10))) (cOp pEq (cCallF 2 m_area_difference (aCons (cCallF 1 m_hull (aCons (cVar 0) aNil)) (aCons (cVar 2) aNil))) (cCallF 1 m_waste (aCons (cVar 0) aNil)))))))))))
def m__law_areas : List PD → R PD := mBody 7 b__law_areas
def b_joined {d : Type} : Env → d → R (Fl × d) :=
      (sSeq (sExpr (cCallF 1 m_check_things (aCons (cVar 0) aNil)))
      (sSeq (sExpr (cCallF 1 m_check_things (aCons (cVar 1) aNil)))
      (sSeq (sSet 2 (cOp pAdd (cVar 0) (cVar 1)))
      (sSeq (sExpr (cCallF 1 m_check_things (aCons (cVar 2) aNil)))
      (sRet (cVar 2))))))
def m_joined : List PD → R PD := mBody 1 b_joined
def b_turned_over {d : Type} : Env → d → R (Fl × d) :=
      (sSeq (sExpr (cCallF 1 m_check_things (aCons (cVar 0) aNil)))
      (sRet (cComp (iLst (cVar 0)) (bTup (bCons (bNm 1) (bCons (bNm 2) bNil))) [1, 2] tYesD (cTup (aCons (cOp pSub (cC (.int 99)) (cVar 1)) (aCons (cVar 2) aNil))))))
def m_turned_over : List PD → R PD := mBody 2 b_turned_over
def b_exchanged {d : Type} : Env → d → R (Fl × d) :=
      (sSeq (sExpr (cCallF 1 m_check_things (aCons (cVar 0) aNil)))
      (sRet (cComp (iLst (cVar 0)) (bTup (bCons (bNm 1) (bCons (bNm 2) bNil))) [1, 2] tYesD (cTup (aCons (cVar 1) (aCons (cUn pNot (cVar 2)) aNil))))))
def m_exchanged : List PD → R PD := mBody 2 b_exchanged
def b_led {d : Type} : Env → d → R (Fl × d) :=
      (sSeq (sExpr (cCallF 1 m_check_things (aCons (cVar 0) aNil)))
      (sSeq (sIf (cOrT (cNotT (cTest (cUn (pIsi "tuple") (cVar 1)))) (cOrT (cTest (cOp pNe (cCall pLen (aCons (cVar 1) aNil)) (cC (.int 100)))) (cNotT (cTest (cCall pAll (aCons (cComp (iTp (cVar 1)) (bNm 2) [2] tYesD (cCallF 3 m_is_int (aCons (cVar 2) (aCons (cC (.int 0)) (aCons (cC (.int 99)) aNil))))) aNil))))))
      (sRaise 1)
      sNil)
      (sSeq (sIf (cNotT (cTest (cCall pAll (aCons (cComp (iRg1 (aCons (cC (.int 99)) aNil)) (bNm 4) [4] tYesD (cOp pLe (cOp pIx (cVar 1) (cVar 4)) (cOp pIx (cVar 1) (cOp pAdd (cVar 4) (cC (.int 1)))))) aNil))))
      (sRaise 1)
      sNil)
      (sRet (cComp (iLst (cVar 0)) (bTup (bCons (bNm 2) (bCons (bNm 3) bNil))) [2, 3] tYesD (cTup (aCons (cOp pIx (cVar 1) (cVar 2)) (aCons (cVar 3) aNil))))))))
def m_led : List PD → R PD := mBody 3 b_led
def b_check_numbers {d : Type} : Env → d → R (Fl × d) :=
      (sSeq (sIf (cOrT (cNotT (cTest (cCallF 3 m_is_int (aCons (cVar 0) (aCons (cC (.int 0)) (aCons (cC (.int 4)) aNil)))))) (cNotT (cTest (cCallF 3 m_is_int (aCons (cVar 1) (aCons (cC (.int 0)) (aCons (cC (.int 4)) aNil)))))))
      (sRaise 1)
      sNil)
      (sIf (cTest (cOp pEq (cOp pAdd (cVar 0) (cVar 1)) (cC (.int 0))))
      (sRaise 1)
      sNil))
def m_check_numbers : List PD → R PD := mBody 0 b_check_numbers
def b_check_text {d : Type} : Env → d → R (Fl × d) :=
      (sIf (cNotT (cTest (cUn (pIsi "str") (cVar 0))))
      (sRaise 3)
      sNil)
def m_check_text : List PD → R PD := mBody 0 b_check_text
def b__law_two {d : Type} : Env → d → R (Fl × d) :=
      (sSeq (sIf (cTest (cOp pEq (cVar 0) (cC (.int 0))))
      (sRet (cCallF 2 m_alarms_at (aCons (cVar 1) (aCons (cVar 2) aNil))))
      sNil)
      (sSeq (sIf (cTest (cOp pEq (cVar 0) (cC (.int 1))))
      (sRet (cCallF 2 m_most_true (aCons (cVar 1) (aCons (cVar 2) aNil))))
      sNil)
      (sSeq (sIf (cTest (cOp pEq (cVar 0) (cC (.int 2))))
      (sRet (cCallF 2 m_least_false (aCons (cVar 1) (aCons (cVar 2) aNil))))
      sNil)
      (sSeq (sIf (cTest (cOp pEq (cVar 0) (cC (.int 3))))
      (sRet (cCallF 3 m_least_cost (aCons (cVar 1) (aCons (cVar 2) (aCons (cVar 3) aNil)))))
      sNil)
      (sSeq (sIf (cTest (cOp pEq (cVar 0) (cC (.int 4))))
      (sRet (cCallF 3 m_best_points (aCons (cVar 1) (aCons (cVar 2) (aCons (cVar 3) aNil)))))
      sNil)
      (sSeq (sIf (cTest (cOp pEq (cVar 0) (cC (.int 5))))
      (sRet (cCallF 3 m_best_thresholds (aCons (cVar 1) (aCons (cVar 2) (aCons (cVar 3) aNil)))))
      sNil)
      (sSeq (sIf (cTest (cOp pEq (cVar 0) (cC (.int 6))))
      (sRet (cCallF 3 m_miss_cost_for (aCons (cVar 1) (aCons (cVar 2) (aCons (cVar 3) aNil)))))
      sNil)
      (sSeq (sIf (cTest (cOp pEq (cVar 0) (cC (.int 7))))
      (sRet (cCallF 4 m_cost_at (aCons (cVar 1) (aCons (cVar 2) (aCons (cVar 3) (aCons (cC (.int 1)) aNil))))))
      sNil)
      (sSeq (sIf (cTest (cOp pEq (cVar 0) (cC (.int 8))))
      (sRet (cCallF 4 m_mixed_alarms (aCons (cVar 1) (aCons (cVar 2) (aCons (cVar 3) (aCons (cTup (aCons (cC (.int 1)) (aCons (cC (.int 2)) aNil))) aNil))))))
      sNil)
      (sSeq (sIf (cTest (cOp pEq (cVar 0) (cC (.int 9))))
      (sRet (cCallF 2 m_best_true (aCons (cVar 1) (aCons (cVar 2) aNil))))
      sNil)
      (sSeq (sIf (cTest (cOp pEq (cVar 0) (cC (.int 10))))
      (sRet (cCallF 2 m_best_mixture (aCons (cVar 1) (aCons (cVar 2) aNil))))
      sNil)
      (sSeq (sIf (cTest (cOp pEq (cVar 0) (cC (.int 11))))
      (sRet (cCallF 2 m_gain (aCons (cVar 1) (aCons (cVar 2) aNil))))
      sNil)
      (sSeq (sIf (cTest (cOp pEq (cVar 0) (cC (.int 12))))
      (sRet (cCallF 2 m_joined (aCons (cVar 1) (aCons (cLst (aCons (cTup (aCons (cC (.int 1)) (aCons (cC (.bool true)) aNil))) aNil)) aNil))))
      sNil)
      (sRet (cIf (cTest (cOp pEq (cVar 0) (cC (.int 13)))) (cCallF 2 m_share_of (aCons (cVar 1) (aCons (cVar 2) aNil))) (cCallF 2 m_is_ever_best (aCons (cVar 1) (aCons (cVar 2) aNil))))))))))))))))))
def m__law_two : List PD → R PD := mBody 0 b__law_two
def b__law_first {d : Type} : Env → d → R (Fl × d) :=
      (sSeq (sIf (cOrT (cTest (cOp pNe (cCallF 1 m_curve (aCons (cVar 0) aNil)) (cLst (aCons (cTup (aCons (cC (.int 0)) (aCons (cC (.int 0)) aNil))) (aCons (cTup (aCons (cC (.int 0)) (aCons (cC (.int 1)) aNil))) (aCons (cTup (aCons (cC (.int 1)) (aCons (cC (.int 1)) aNil))) (aCons (cTup (aCons (cC (.int 2)) (aCons (cC (.int 2)) aNil))) (aCons (cTup (aCons (cC (.int 3)) (aCons (cC (.int 2)) aNil))) aNil)))))))) (cOrT (cTest (cOp pNe (cCallF 2 m_most_true (aCons (cVar 0) (aCons (cC (.int 1)) aNil))) (cC (.int 1)))) (cTest (cOp pNe (cCallF 1 m_pair_counts (aCons (cVar 0) aNil)) (cTup (aCons (cC (.int 4)) (aCons (cC (.int 1)) (aCons (cC (.int 1)) aNil))))))))
      (sRet (cC (.bool false)))
      sNil)
      (sSeq (sIf (cOrT (cTest (cOp pNe (cCallF 1 m_hull (aCons (cVar 0) aNil)) (cLst (aCons (cTup (aCons (cC (.int 0)) (aCons (cC (.int 0)) aNil))) (aCons (cTup (aCons (cC (.int 0)) (aCons (cC (.int 1)) aNil))) (aCons (cTup (aCons (cC (.int 2)) (aCons (cC (.int 2)) aNil))) (aCons (cTup (aCons (cC (.int 3)) (aCons (cC (.int 2)) aNil))) aNil))))))) (cTest (cOp pNe (cCallF 3 m_best_points (aCons (cVar 0) (aCons (cC (.int 1)) (aCons (cC (.int 2)) aNil)))) (cLst (aCons (cTup (aCons (cC (.int 0)) (aCons (cC (.int 1)) aNil))) (aCons (cTup (aCons (cC (.int 2)) (aCons (cC (.int 2)) aNil))) aNil))))))
      (sRet (cC (.bool false)))
      sNil)
      (sRet (cAndV (cOp pEq (cCallF 3 m_miss_cost_for (aCons (cVar 0) (aCons (cC (.int 1)) (aCons (cC (.int 9)) aNil)))) (cC (.int 2))) (cOp pEq (cCallF 2 m_best_true (aCons (cVar 0) (aCons (cTup (aCons (cC (.int 1)) (aCons (cC (.int 1)) aNil))) aNil))) (cTup (aCons (cC (.int 3)) (aCons (cC (.int 2)) aNil))))))))
def m__law_first : List PD → R PD := mBody 0 b__law_first
end DL

/-! the mirrors, second part, printed by gen.py -/
namespace DL
open PySem PySem.Spec PyProof.Rows L2

def b__law_error : Env → Nat → R (Fl × Nat) :=
      (sSeq (sSet 1 (cLst (aCons (cIsE (fun c => decide (c = 0)) (cVar 0)) (aCons (cIsE (fun c => decide (c = 1)) (cVar 0)) (aCons (cIsE (fun c => decide (c = 2)) (cVar 0)) aNil)))))
      (sSeq (sSet 1 (cOp pAdd (cVar 1) (cLst (aCons (cIsE (fun c => decide (c = 3)) (cVar 0)) (aCons (cIsE (fun c => decide (c = 4)) (cVar 0)) aNil)))))
      (sSeq (sIf (cOrT (cTest (cOp pNe (cMeth pCount (cVar 1) (cC (.bool true))) (cC (.int 1)))) (cOrT (cNotT (cTest (cIsE (fun _ => true) (cVar 0)))) (cNotT (cTest (cIsE (fun _ => true) (cVar 0))))))
      (sRet (cC (.str "odd")))
      sNil)
      (sRet (cOp pIx (cLst (aCons (cC (.str "things")) (aCons (cC (.str "number")) (aCons (cC (.str "points")) (aCons (cC (.str "text")) (aCons (cC (.str "none")) aNil)))))) (cMeth pIndex (cVar 1) (cC (.bool true))))))))
def b__law_area {d : Type} : Env → d → R (Fl × d) :=
      (sSeq (sSet 1 (cC .none))
      (sSeq (sSet 2 (cC .none))
      (sTry (sSet 1 (cCallF 1 m_area (aCons (cVar 0) aNil))) 2 (cVar 1) errN)))
def m__law_area : List PD → R PD := mBody 3 b__law_area
def b__law_ever {d : Type} : Env → d → R (Fl × d) :=
      (sSeq (sSet 2 (cC .none))
      (sSeq (sSet 3 (cC .none))
      (sTry (sSet 2 (cCallF 2 m_is_ever_best (aCons (cVar 0) (aCons (cVar 1) aNil)))) 3 (cVar 2) errN)))
def m__law_ever : List PD → R PD := mBody 3 b__law_ever
end DL

/-! the mirrors, third part, printed by gen.py -/
namespace DL
open PySem PySem.Spec PyProof.Rows L2

def b_parse_number {d : Type} : Env → d → R (Fl × d) :=
      (sSeq (sIf (cOrT (cNotT (cTest (cChain pLe pLe (cC (.int 1)) (cCall pLen (aCons (cVar 0) aNil)) (cC (.int 2))))) (cOrT (cNotT (cTest (cCall pAll (aCons (cComp (iSt (cVar 0)) (bNm 1) [1] tYesD (cOp pInS (cVar 1) (cC (.str "0123456789")))) aNil)))) (cTest (cOp pNe (cCall pStr (aCons (cCall pIntS (aCons (cVar 0) aNil)) aNil)) (cVar 0)))))
      (sRaise 3)
      sNil)
      (sRet (cCall pIntS (aCons (cVar 0) aNil))))
def m_parse_number : List PD → R PD := mBody 1 b_parse_number
def b__law_written {d : Type} : Env → d → R (Fl × d) :=
      (sSeq (sIf (cTest (cOp pEq (cVar 0) (cC (.int 0))))
      (sRet (cTxt pJoin (cC (.str " ")) (cComp (iLst (cVar 1)) (bTup (bCons (bNm 4) (bCons (bNm 5) bNil))) [4, 5] tYesD (cOp pAdd (cCall pStr (aCons (cVar 4) aNil)) (cIf (cTest (cVar 5)) (cC (.str "+")) (cC (.str "-")))))))
      sNil)
      (sRet (cTxt pJoin (cC (.str " ")) (cComp (iLst (cVar 1)) (bTup (bCons (bNm 2) (bCons (bNm 3) bNil))) [2, 3] tYesD (cOp pAdd (cOp pAdd (cCall pStr (aCons (cVar 2) aNil)) (cC (.str ":"))) (cCall pStr (aCons (cVar 3) aNil)))))))
def m__law_written : List PD → R PD := mBody 4 b__law_written
def b_parse_points {d : Type} : Env → d → R (Fl × d) :=
      (sSeq (sExpr (cCallF 1 m_check_text (aCons (cVar 0) aNil)))
      (sSeq (sSetF 1 (fLst aNil))
      (sSeq (sFor (iLst (cTxt pSplit (cVar 0) (cC (.str " ")))) (bNm 2)
      (sSeq (sSet 3 (cTxt pSplit (cVar 2) (cC (.str ":"))))
      (sSeq (sIf (cTest (cOp pNe (cCall pLen (aCons (cVar 3) aNil)) (cC (.int 2))))
      (sRaise 3)
      sNil)
      (sApp 1 (cTup (aCons (cCallF 1 m_parse_number (aCons (cOp pIx (cVar 3) (cC (.int 0))) aNil)) (aCons (cCallF 1 m_parse_number (aCons (cOp pIx (cVar 3) (cC (.int 1))) aNil)) aNil)))))))
      (sSeq (sIf (cNotT (cTest (cCallF 1 m_is_points (aCons (cVar 1) aNil))))
      (sRaise 3)
      sNil)
      (sRet (cVar 1))))))
def m_parse_points : List PD → R PD := mBody 3 b_parse_points
def b_parse_things {d : Type} : Env → d → R (Fl × d) :=
      (sSeq (sExpr (cCallF 1 m_check_text (aCons (cVar 0) aNil)))
      (sSeq (sSetF 1 (fLst aNil))
      (sSeq (sFor (iLst (cTxt pSplit (cVar 0) (cC (.str " ")))) (bNm 2)
      (sSeq (sIf (cTest (cOp pNotInT (cSl pSl (cVar 2) (oSome (cUn pNeg (cC (.int 1)))) oNone) (cTup (aCons (cC (.str "+")) (aCons (cC (.str "-")) aNil)))))
      (sRaise 3)
      sNil)
      (sApp 1 (cTup (aCons (cCallF 1 m_parse_number (aCons (cSl pSl (cVar 2) oNone (oSome (cUn pNeg (cC (.int 1))))) aNil)) (aCons (cOp pEq (cOp pIx (cVar 2) (cUn pNeg (cC (.int 1)))) (cC (.str "+"))) aNil))))))
      (sSeq (sIf (cNotT (cTest (cCallF 1 m_is_things (aCons (cVar 1) aNil))))
      (sRaise 3)
      sNil)
      (sRet (cVar 1))))))
def m_parse_things : List PD → R PD := mBody 2 b_parse_things
def b_format_points {d : Type} : Env → d → R (Fl × d) :=
      (sSeq (sExpr (cCallF 1 m_check_points (aCons (cVar 0) aNil)))
      (sRet (cTxt pJoin (cC (.str " ")) (cComp (iLst (cVar 0)) (bTup (bCons (bNm 1) (bCons (bNm 2) bNil))) [1, 2] tYesD (cF3 ":" (cVar 1) (cVar 2))))))
def m_format_points : List PD → R PD := mBody 2 b_format_points
def b_format_things {d : Type} : Env → d → R (Fl × d) :=
      (sSeq (sExpr (cCallF 1 m_check_things (aCons (cVar 0) aNil)))
      (sRet (cTxt pJoin (cC (.str " ")) (cComp (iLst (cVar 0)) (bTup (bCons (bNm 1) (bCons (bNm 2) bNil))) [1, 2] tYesD (cOp pAdd (cCall pStr (aCons (cVar 1) aNil)) (cIf (cTest (cVar 2)) (cC (.str "+")) (cC (.str "-"))))))))
def m_format_things : List PD → R PD := mBody 2 b_format_things
def b__law_parsed {d : Type} : Env → d → R (Fl × d) :=
      (sSeq (sSet 2 (cC .none))
      (sSeq (sSet 3 (cC .none))
      (sTry (sSet 2 (cIf (cTest (cOp pEq (cVar 0) (cC (.int 0)))) (cCallF 1 m_parse_things (aCons (cVar 1) aNil)) (cCallF 1 m_parse_points (aCons (cVar 1) aNil)))) 3 (cVar 2) errN)))
def m__law_parsed : List PD → R PD := mBody 3 b__law_parsed
def b__law_rejected {d : Type} : Env → d → R (Fl × d) :=
      (sSeq (sSet 0 (cLst (aCons (cC .none) (aCons (cC (.int 5)) (aCons (cC (.str "")) (aCons (cC (.str " ")) (aCons (cC (.str "1")) (aCons (cC (.str "+")) (aCons (cC (.str "1+ ")) (aCons (cC (.str " 1+")) (aCons (cC (.str "1+  2-")) (aCons (cC (.str "01+")) (aCons (cC (.str "+1+")) (aCons (cC (.str "-1-")) (aCons (cC (.str "a+")) (aCons (cC (.str "100+")) (aCons (cC (.str "1*")) (aCons (cC (.str "1++")) (aCons (cC (.str "1 +")) (aCons (cTxt pJoin (cC (.str " ")) (cOp pMul (cLst (aCons (cC (.str "0+")) aNil)) (cC (.int 13)))) aNil))))))))))))))))))))
      (sSeq (sIf (cOrT (cTest (cOp pNe (cComp (iLst (cVar 0)) (bNm 1) [1] tYesD (cCallF 2 m__law_parsed (aCons (cC (.int 0)) (aCons (cVar 1) aNil)))) (cOp pMul (cLst (aCons (cC (.str "text")) aNil)) (cC (.int 18))))) (cTest (cOp pNe (cCallF 2 m__law_parsed (aCons (cC (.int 0)) (aCons (cC (.str "99+ 0-")) aNil))) (cLst (aCons (cTup (aCons (cC (.int 99)) (aCons (cC (.bool true)) aNil))) (aCons (cTup (aCons (cC (.int 0)) (aCons (cC (.bool false)) aNil))) aNil))))))
      (sRet (cC (.bool false)))
      sNil)
      (sSeq (sSet 0 (cLst (aCons (cC .none) (aCons (cC (.int 5)) (aCons (cC (.str "")) (aCons (cC (.str "0:0")) (aCons (cC (.str "0:0 ")) (aCons (cC (.str "0:0 0:0")) (aCons (cC (.str "0:0 1")) (aCons (cC (.str "1:1")) (aCons (cC (.str "0:1 1:1")) (aCons (cC (.str "0:0 1:1 0:2")) (aCons (cC (.str "0:0 1:1 1:1")) (aCons (cC (.str "0:0 01:1")) (aCons (cC (.str "0:0 13:0")) (aCons (cC (.str "0:0 7:6")) (aCons (cC (.str "0:0 1:1:1")) (aCons (cC (.str "0:0 a:b")) (aCons (cC (.str "0:0  1:1")) (aCons (cC (.str "0:0 -1:1")) aNil))))))))))))))))))))
      (sRet (cAndV (cOp pEq (cComp (iLst (cVar 0)) (bNm 1) [1] tYesD (cCallF 2 m__law_parsed (aCons (cC (.int 1)) (aCons (cVar 1) aNil)))) (cOp pMul (cLst (aCons (cC (.str "text")) aNil)) (cC (.int 18)))) (cOp pEq (cCallF 2 m__law_parsed (aCons (cC (.int 1)) (aCons (cC (.str "0:0 12:0")) aNil))) (cLst (aCons (cTup (aCons (cC (.int 0)) (aCons (cC (.int 0)) aNil))) (aCons (cTup (aCons (cC (.int 12)) (aCons (cC (.int 0)) aNil))) aNil)))))))))
def m__law_rejected : List PD → R PD := mBody 2 b__law_rejected
def b__law_one {d : Type} : Env → d → R (Fl × d) :=
      (sSeq (sIf (cTest (cOp pEq (cVar 0) (cC (.int 0))))
      (sRet (cCallF 1 m_unlike_scores (aCons (cVar 1) aNil)))
      sNil)
      (sSeq (sIf (cTest (cOp pEq (cVar 0) (cC (.int 1))))
      (sRet (cCallF 1 m_totals (aCons (cVar 1) aNil)))
      sNil)
      (sSeq (sIf (cTest (cOp pEq (cVar 0) (cC (.int 2))))
      (sRet (cCallF 1 m_curve (aCons (cVar 1) aNil)))
      sNil)
      (sSeq (sIf (cTest (cOp pEq (cVar 0) (cC (.int 3))))
      (sRet (cCallF 1 m_pair_counts (aCons (cVar 1) aNil)))
      sNil)
      (sSeq (sIf (cTest (cOp pEq (cVar 0) (cC (.int 4))))
      (sRet (cCallF 1 m_in_order (aCons (cVar 1) aNil)))
      sNil)
      (sSeq (sIf (cTest (cOp pEq (cVar 0) (cC (.int 5))))
      (sRet (cCallF 1 m_wrong_pairs (aCons (cVar 1) aNil)))
      sNil)
      (sSeq (sIf (cTest (cOp pEq (cVar 0) (cC (.int 6))))
      (sRet (cCallF 1 m_hull (aCons (cVar 1) aNil)))
      sNil)
      (sSeq (sIf (cTest (cOp pEq (cVar 0) (cC (.int 7))))
      (sRet (cCallF 1 m_waste (aCons (cVar 1) aNil)))
      sNil)
      (sSeq (sIf (cTest (cOp pEq (cVar 0) (cC (.int 8))))
      (sRet (cCallF 1 m_is_bent (aCons (cVar 1) aNil)))
      sNil)
      (sSeq (sIf (cTest (cOp pEq (cVar 0) (cC (.int 9))))
      (sRet (cCallF 1 m_cost_ranges (aCons (cVar 1) aNil)))
      sNil)
      (sSeq (sIf (cTest (cOp pEq (cVar 0) (cC (.int 10))))
      (sRet (cCallF 1 m_pools (aCons (cVar 1) aNil)))
      sNil)
      (sSeq (sIf (cTest (cOp pEq (cVar 0) (cC (.int 11))))
      (sRet (cCallF 1 m_shares (aCons (cVar 1) aNil)))
      sNil)
      (sSeq (sIf (cTest (cOp pEq (cVar 0) (cC (.int 12))))
      (sRet (cCallF 1 m_squared_error (aCons (cVar 1) aNil)))
      sNil)
      (sSeq (sIf (cTest (cOp pEq (cVar 0) (cC (.int 13))))
      (sRet (cCallF 1 m_is_pooled (aCons (cVar 1) aNil)))
      sNil)
      (sSeq (sIf (cTest (cOp pEq (cVar 0) (cC (.int 14))))
      (sRet (cCallF 1 m_turned_over (aCons (cVar 1) aNil)))
      sNil)
      (sSeq (sIf (cTest (cOp pEq (cVar 0) (cC (.int 15))))
      (sRet (cCallF 1 m_exchanged (aCons (cVar 1) aNil)))
      sNil)
      (sRet (cIf (cTest (cOp pEq (cVar 0) (cC (.int 16)))) (cCallF 1 m_format_things (aCons (cVar 1) aNil)) (cCallF 1 m_area (aCons (cVar 1) aNil))))))))))))))))))))
def m__law_one : List PD → R PD := mBody 0 b__law_one
def b__law_asked {d : Type} : Env → d → R (Fl × d) :=
      (sSeq (sSet 5 (cC .none))
      (sTry (sIf (cTest (cOp pEq (cVar 0) (cC (.int 1))))
      (sExpr (cCallF 2 m__law_one (aCons (cVar 1) (aCons (cVar 2) aNil))))
      (sExpr (cCallF 4 m__law_two (aCons (cVar 1) (aCons (cVar 2) (aCons (cVar 3) (aCons (cVar 4) aNil))))))) 5 (cC (.str "done")) errN))
def m__law_asked : List PD → R PD := mBody 2 b__law_asked
def b__law_limits {d : Type} : Env → d → R (Fl × d) :=
      (sSeq (sSet 1 (cLst (aCons (cTup (aCons (cC (.int 0)) (aCons (cC (.int 0)) (aCons (cC (.int 100)) aNil)))) (aCons (cTup (aCons (cC (.int 1)) (aCons (cC (.int 0)) (aCons (cC (.int 12)) aNil)))) (aCons (cTup (aCons (cC (.int 2)) (aCons (cC (.int 0)) (aCons (cC (.int 12)) aNil)))) (aCons (cTup (aCons (cC (.int 3)) (aCons (cC (.int 0)) (aCons (cC (.int 1000)) aNil)))) (aCons (cTup (aCons (cC (.int 4)) (aCons (cC (.int 0)) (aCons (cC (.int 1000)) aNil)))) (aCons (cTup (aCons (cC (.int 5)) (aCons (cC (.int 0)) (aCons (cC (.int 1000)) aNil)))) (aCons (cTup (aCons (cC (.int 6)) (aCons (cC (.int 0)) (aCons (cC (.int 1000)) aNil)))) (aCons (cTup (aCons (cC (.int 7)) (aCons (cC (.int 0)) (aCons (cC (.int 100)) aNil)))) (aCons (cTup (aCons (cC (.int 8)) (aCons (cC (.int 0)) (aCons (cC (.int 100)) aNil)))) aNil)))))))))))
      (sSeq (sFor (iLst (cVar 1)) (bTup (bCons (bNm 3) (bCons (bNm 4) (bCons (bNm 5) bNil))))
      (sSeq (sIf (cTest (cOp pNe (cComp (iTp (cTup (aCons (cC .none) (aCons (cOp pSub (cVar 4) (cC (.int 1))) (aCons (cOp pAdd (cVar 5) (cC (.int 1))) (aCons (cC (.bool true)) (aCons (cCall pStr (aCons (cVar 4) aNil)) aNil))))))) (bNm 2) [2] tYesD (cCallF 5 m__law_asked (aCons (cC (.int 2)) (aCons (cVar 3) (aCons (cVar 0) (aCons (cVar 2) (aCons (cC (.int 1)) aNil))))))) (cOp pMul (cLst (aCons (cC (.str "number")) aNil)) (cC (.int 5)))))
      (sRet (cC (.bool false)))
      sNil)
      (sIf (cTest (cOp pNe (cComp (iTp (cTup (aCons (cVar 4) (aCons (cVar 5) aNil)))) (bNm 7) [7] tYesD (cCallF 5 m__law_asked (aCons (cC (.int 2)) (aCons (cVar 3) (aCons (cVar 0) (aCons (cVar 7) (aCons (cC (.int 1)) aNil))))))) (cOp pMul (cLst (aCons (cC (.str "done")) aNil)) (cC (.int 2)))))
      (sRet (cC (.bool false)))
      sNil)))
      (sSeq (sFor (iLst (cLst (aCons (cTup (aCons (cC (.int 3)) (aCons (cC (.int 0)) (aCons (cC (.int 1000)) aNil)))) (aCons (cTup (aCons (cC (.int 4)) (aCons (cC (.int 0)) (aCons (cC (.int 1000)) aNil)))) (aCons (cTup (aCons (cC (.int 5)) (aCons (cC (.int 0)) (aCons (cC (.int 1000)) aNil)))) (aCons (cTup (aCons (cC (.int 6)) (aCons (cC (.int 0)) (aCons (cC (.int 1000)) aNil)))) (aCons (cTup (aCons (cC (.int 7)) (aCons (cC (.int 0)) (aCons (cC (.int 1000)) aNil)))) (aCons (cTup (aCons (cC (.int 8)) (aCons (cC (.int 0)) (aCons (cC (.int 100)) aNil)))) aNil)))))))) (bTup (bCons (bNm 3) (bCons (bNm 4) (bCons (bNm 5) bNil))))
      (sSeq (sIf (cTest (cOp pNe (cComp (iTp (cTup (aCons (cC .none) (aCons (cOp pSub (cVar 4) (cC (.int 1))) (aCons (cOp pAdd (cVar 5) (cC (.int 1))) (aCons (cC (.bool true)) (aCons (cCall pStr (aCons (cVar 4) aNil)) aNil))))))) (bNm 2) [2] tYesD (cCallF 5 m__law_asked (aCons (cC (.int 2)) (aCons (cVar 3) (aCons (cVar 0) (aCons (cC (.int 1)) (aCons (cVar 2) aNil))))))) (cOp pMul (cLst (aCons (cC (.str "number")) aNil)) (cC (.int 5)))))
      (sRet (cC (.bool false)))
      sNil)
      (sIf (cTest (cOp pNe (cComp (iTp (cTup (aCons (cVar 4) (aCons (cVar 5) aNil)))) (bNm 7) [7] tYesD (cCallF 5 m__law_asked (aCons (cC (.int 2)) (aCons (cVar 3) (aCons (cVar 0) (aCons (cC (.int 1)) (aCons (cVar 7) aNil))))))) (cOp pMul (cLst (aCons (cC (.str "done")) aNil)) (cC (.int 2)))))
      (sRet (cC (.bool false)))
      sNil)))
      (sSeq (sFor (iLst (cLst (aCons (cC .none) (aCons (cC (.int 5)) (aCons (cTup (aCons (cC (.int 1)) aNil)) (aCons (cLst (aCons (cC (.int 1)) (aCons (cC (.int 2)) aNil))) (aCons (cTup (aCons (cC (.int 1)) (aCons (cC (.int 0)) aNil))) (aCons (cTup (aCons (cC (.int 2)) (aCons (cC (.int 4)) aNil))) (aCons (cTup (aCons (cOp pSub (cC (.int 0)) (cC (.int 1))) (aCons (cC (.int 2)) aNil))) (aCons (cTup (aCons (cC (.bool true)) (aCons (cC (.int 1)) aNil))) (aCons (cTup (aCons (cC (.int 5)) (aCons (cC (.int 2)) aNil))) (aCons (cTup (aCons (cC (.int 1)) (aCons (cC (.int 1001)) aNil))) (aCons (cTup (aCons (cC (.int 0)) (aCons (cC (.int 2)) aNil))) aNil))))))))))))) (bNm 2)
      (sIf (cTest (cOp pNe (cComp (iTp (cTup (aCons (cC (.int 9)) (aCons (cC (.int 10)) (aCons (cC (.int 11)) aNil))))) (bNm 6) [6] tYesD (cCallF 5 m__law_asked (aCons (cC (.int 2)) (aCons (cVar 6) (aCons (cVar 0) (aCons (cVar 2) (aCons (cC (.int 0)) aNil))))))) (cOp pMul (cLst (aCons (cC (.str "number")) aNil)) (cC (.int 3)))))
      (sRet (cC (.bool false)))
      sNil))
      (sRet (cOp pEq (cComp (iTp (cTup (aCons (cC (.int 9)) (aCons (cC (.int 10)) (aCons (cC (.int 11)) aNil))))) (bNm 6) [6] tYesD (cCallF 5 m__law_asked (aCons (cC (.int 2)) (aCons (cVar 6) (aCons (cVar 0) (aCons (cTup (aCons (cC (.int 2)) (aCons (cC (.int 1)) aNil))) (aCons (cC (.int 0)) aNil))))))) (cOp pMul (cLst (aCons (cC (.str "done")) aNil)) (cC (.int 3)))))))))
def m__law_limits : List PD → R PD := mBody 7 b__law_limits
end DL

/-! DLQ: the class Watch: its world, its promises -/
namespace DL
open PySem PySem.Spec PyProof.Rows L2
theorem tl_ : ¬ (("threshold" : Str) = "line") := by decide +kernel
theorem lt_ : ¬ (("line" : Str) = "threshold") := by decide +kernel
def wf (l : Addr) (t : Int) : List (Str × V) := putF "line" (.ref l) (putF "threshold" (.int t) [])
theorem wf_eq (l : Addr) (t : Int) : wf l t = ([("threshold", V.int t), ("line", V.ref l)] : List (Str × V)) := by
  show (if ("threshold" : Str) = "line" then [(("threshold" : Str), V.ref l)] else (("threshold" : Str), V.int t) :: putF "line" (V.ref l) []) = ([("threshold", V.int t), ("line", V.ref l)] : List (Str × V))
  rw [if_neg tl_]
  all_goals rfl
theorem wf_line (l : Addr) (t : Int) : (wf l t).lookup ("line" : Str) = some (.ref l) := by
  unfold wf
  rw [lookup_putF, if_pos rfl]
theorem wf_thr (l : Addr) (t : Int) : (wf l t).lookup ("threshold" : Str) = some (.int t) := by
  unfold wf
  rw [lookup_putF, if_neg tl_, lookup_putF, if_pos rfl]
theorem wf_no (l : Addr) (t : Int) {m : Str} (h1 : ¬ m = "line") (h2 : ¬ m = "threshold") : (wf l t).lookup m = none := by
  unfold wf
  rw [lookup_putF, if_neg h1, lookup_putF, if_neg h2]
  all_goals rfl
theorem wf_put (l : Addr) (t u : Int) : putF "threshold" (.int u) (wf l t) = wf l u := by
  rw [wf_eq, wf_eq]
  show (if ("threshold" : Str) = "threshold" then (("threshold" : Str), V.int u) :: [(("line" : Str), V.ref l)] else _) = ([("threshold", V.int u), ("line", V.ref l)] : List (Str × V))
  rw [if_pos rfl]
abbrev Wt := Int × List PD
/-- a watch: its threshold, the things that came -/
def Ww (cls : Nat → Addr) (C : Addr) (i : Addr × Addr × Addr) : Wd where
  d := Wt
  fp := fun a => a = i.1 ∨ a = i.2.1 ∨ a = i.2.2
  rep := fun s G H => (i.1 ≠ i.2.1 ∧ i.1 ≠ i.2.2 ∧ i.2.1 ≠ i.2.2) ∧ H i.1 = some (.ins C i.2.1 (wf i.2.2 s.1)) ∧ H i.2.1 = some (.own i.1) ∧ ∃ vs, H i.2.2 = some (.lst vs) ∧ DgAll G vs s.2
  tk := fun _ => .ref i.1
  cls := cls
  keep := fun ⟨n, a, b, vs, c, d⟩ g k => ⟨n, k _ _ (.inl rfl) a, k _ _ (.inr (.inl rfl)) b, vs, k _ _ (.inr (.inr rfl)) c, d.mono g⟩
/-- .. while its list is only read -/
def Wro (cls : Nat → Addr) (C : Addr) (i : Addr × Addr × Addr) : Wd where
  d := Wt
  fp := fun a => a = i.1 ∨ a = i.2.1
  rep := fun s G H => (i.1 ≠ i.2.1 ∧ i.1 ≠ i.2.2 ∧ i.2.1 ≠ i.2.2) ∧ H i.1 = some (.ins C i.2.1 (wf i.2.2 s.1)) ∧ H i.2.1 = some (.own i.1) ∧ ∃ vs, G i.2.2 = some (.lst vs) ∧ DgAll G vs s.2
  tk := fun _ => .ref i.1
  cls := cls
  keep := fun ⟨n, a, b, vs, c, d⟩ g k => ⟨n, k _ _ (.inl rfl) a, k _ _ (.inr rfl) b, vs, g _ _ c, d.mono g⟩
structure WaC (K : PySem.W.Frag) (mg : Str → Option Value) (C : Addr) : Prop where
  cl : Cls K C
  nT : NoAttr K C "threshold"
  nL : NoAttr K C "line"
  mgC : mg "Watch" = some (.ref C)
theorem Sit.upd {W : Wd} {G H : Hp} {s s' : W.d} {p : Addr} {o : HO} (S : Sit W G H s) (f : W.fp p) (r : W.rep s' G (upd H p o)) : Sit W G (upd H p o) s' ∧ Gr W.fp G H G (upd H p o) := by
  refine ⟨⟨fun a u e => ?_, S.fpG, fun a q z => ?_, r⟩, ⟨fun _ _ e => e, fun a u n e => ?_, fun a z => ?_, fun _ _ e => .inl e⟩⟩
  · rw [upd_ne (ne_of_none e (S.fpG p f))]; exact S.sub a u e
  · by_cases h : a = p
    · subst h; rw [upd_same] at z; cases z
    · rw [upd_ne h] at z; exact S.fpH a q z
  · rw [upd_ne fun h => n (by rw [h]; exact f)]; exact e
  · by_cases h : a = p
    · subst h; rw [upd_same] at z; cases z
    · rw [upd_ne h] at z; exact z
theorem IsInsM.watch {cls : Nat → Addr} {C : Addr} {i : Addr × Addr × Addr} {m : Str} (h1 : ¬ m = "line") (h2 : ¬ m = "threshold") : IsInsM (Ww cls C i) C m := fun {s G H} r => ⟨i.1, i.2.1, _, rfl, r.2.1, wf_no _ _ h1 h2⟩
/-! ### what the methods do -/
def m_push : List PD → Wt → R (PD × Wt) := fun ds s => match ds with
  | [.dict _, d] => (match m_is_thing [d] with
    | .ok (.bool true) => (match d with
      | .tuple (.int a :: _) => if s.2.length < 100000 then .ok (.bool (decide (s.1 ≤ a)), (s.1, s.2 ++ [d])) else .bad
      | _ => .bad)
    | .ok (.bool false) => .exc 0
    | _ => .bad)
  | _ => .bad
def m_undo : List PD → Wt → R (PD × Wt) := fun ds s => match ds with
  | [.dict _] => if SeqAt.shaped (.list s.2) = true then (match s.2[s.2.length - 1]? with
    | some d => .ok (d, (s.1, s.2.dropLast))
    | none => .exc 4) else .bad
  | _ => .bad
def m_things : List PD → Wt → R (PD × Wt) := fun ds s => match ds with
  | [.dict _] => .ok (.list s.2, s)
  | _ => .bad
def m_wlen : List PD → Wt → R (PD × Wt) := fun ds s => match ds with
  | [.dict _] => if s.2.length < 1000000 then .ok (.int s.2.length, s) else .bad
  | _ => .bad
def spInitW (cls : Nat → Addr) (C : Addr) : Sp := fun vs H Q E => ∃ (x dx : Addr) (v : V) (G : Hp) (d : PD), vs = [.ref x, v] ∧ Sub G H ∧ H x = some (.ins C dx []) ∧ H dx = some (.own x) ∧ Dg G v d ∧ (match m_check_threshold [d] with
  | .ok _ => ∃ t, d = .int t ∧ ∀ (l : Addr) (H' : Hp), H l = none → (∀ a o, a ≠ x → H a = some o → H' a = some o) → (∀ a, H' a = none → H a = none) → H' x = some (.ins C dx (wf l t)) → H' l = some (.lst []) → Q .non H'
  | .exc c => ∀ H', (∀ a o, H a = some o → H' a = some o) → (∀ a, H' a = none → H a = none) → E (.ref (cls c)) none H'
  | .bad => False)
/-! ### len(o), o of a class with its own __len__ -/
section
variable {X : Cx} {CX : CXT} {k : Nat} {f C : Addr} {fd : FuncData} {sp : Sp} {E : XK}
theorem call_lenOwn (F : FnOk X.prog X.w X.K X.mg X.base CX k f fd ["self"] sp) (hr : Room (k + 1) X.A) (hl : PySem.W.findIn X.K (.ref C) "__len__" = some (some (.ref f))) (hf : PySem.W.isFn X.K (.ref f) = true) (hb : Binds X.K fd ["self"] []) (hx : Passes CX X E) :
    CallR X (.builtin "len") (fun xs H Q => ∃ a dx fs, xs = [.ref a] ∧ H a = some (.ins C dx fs) ∧ sp [.ref a] H (fun v H2 => ∃ n : Int, v = .int n ∧ 0 ≤ n ∧ n < 2 ^ 63 ∧ Q (.int n) H2) E) := by
  intro pins s σ H xs us Q I r h
  obtain ⟨a, dx, fs, rfl, ha, hsp⟩ := h
  rw [Vals.ref1 r]
  obtain ⟨mA, J, _⟩ := ins_get I.hok ha
  obtain ⟨od, J, _⟩ := J.look
  refine Calls.call_function_entry kind_len plain_len entry_len (args_len1 _) ?_
  unfold Builtin.«len»
  refine wpAny_bind (m := oneArg "len" _) (wpAny_pure ?_)
  have e0 : Env0 X.prog X.w X.K X.mg X.base X.A.in1 X.stack s H := by
    have e := I.env0
    exact ⟨e.frames, e.mod, e.bs, e.bsz, e.funs, e.frf, e.hok, e.bare⟩
  have r2 : Vals [V.ref a] [Value.ref a] := .cons rfl .nil
  refine wpAny_bind (m := callSpecial? (.ref a) (Str.ofString "__len__")) (PySem.W.special_fn (name := "__len__") (args := []) I.kIn J hl (beq_iff_eq.mp hf) ?_)
  refine wpAny_call (codeAny_mono (F.run X.A.in1 X.stack s H ⟨[.ref a], []⟩ [.ref a] [.ref a] _ E hr.in1 e0 (by
    have := hb s [.ref a] I.kIn rfl
    simpa using this) r2 hsp) fun r s' hq => ?_)
  cases r with
  | error e => exact hx pins σ H s e s' I hq
  | ok fl =>
    cases fl with
    | ret u =>
      obtain ⟨v, H', I', rv, n, rfl, h0, h1, q⟩ := I.after hq
      obtain ⟨t, rfl⟩ := rv
      show wpAny _ _ _ _ _ s'
      refine wpAny_bind (wpAny_holding (wpAny_pure ?_))
      refine wpAny_bind (wpAny_letGo ?_)
      show wpAny _ _ (if n < 0 then _ else _) _ _ _
      rw [if_neg (by omega)]
      show wpAny _ _ (if n ≥ 2 ^ 63 then _ else _) _ _ _
      rw [if_neg (by omega)]
      exact wpAny_bind (wpAny_mkInt (wpAny_pure ⟨_, rfl, ⟨.int n, H', I'.tok _, ⟨_, rfl⟩, q⟩⟩))
    | next => exact False.elim hq
    | brk => exact False.elim hq
    | cont => exact False.elim hq
end
def cLenW {t1 : Type} (o : Env → t1 × Wt → R (PD × (t1 × Wt))) : Env → t1 × Wt → R (PD × (t1 × Wt)) := fun ρ s =>
  bnd (o ρ s) fun x s1 => if isT 1 x = true ∧ s1.2.2.length < 1000000 then .ok (.int s1.2.2.length, s1) else .bad
section
variable {X : Cx} {O O' : List Nat} {W1 : Wd} {cls : Nat → Addr} {G0 H0 : Hp} {E : XK}
theorem de_lenW {i : Addr × Addr × Addr} {k : Nat} {f C : Addr} {fd : FuncData} {o : Expr} {fo : Mx ⟨W1.and (Ww cls C i), G0, H0, E⟩ PD} {p pos : Pos}
    (hF : FnOk X.prog X.w X.K X.mg X.base (L2.CX X.prog X.w) k f fd ["self"] (spW cls (Ww cls C) 1 fun _ => m_wlen)) (hm : Meth X.K C "__len__" f) (hb : Binds X.K fd ["self"] []) (hr : Room (k + 1) X.A) (hmg : X.mg "len" = none) (ho : DE X ⟨W1.and (Ww cls C i), G0, H0, E⟩ O o fo) (hg : Gl X "len" := by rfl)
    (he : starEach [o] X.env = (false, eval o X.env) :: starEach [] X.env := by rfl) (hpl : (backTo pos (starEach [] X.env)).any (·.1) = false := by rfl) :
    DE X ⟨W1.and (Ww cls C i), G0, H0, E⟩ O (.Call (.Name "len" p) [o] [] pos) (cLenW (t1 := W1.d) fo) := by
  refine PE.imp (pe_callB (call_lenOwn hF hr hm.at_ hm.fn hb passL) hg hmg PySem.boot_len (pa_cons ho pa_nil he) (by decide) (by decide) he hpl) fun σ H Q h => ?_
  obtain ⟨G, ρ, s, a, p⟩ := h
  refine rdE.then a p fun v G1 H1 dx s1 a1 g1 rx p1 => ?_
  by_cases hd : isT 1 dx = true ∧ s1.2.2.length < 1000000
  · rw [if_pos hd] at p1
    have hv := rx.isT1 hd.1
    have r := a1.sit.rep.2.1
    refine ⟨i.1, i.2.1, _, by rw [hv]; rfl, r.2.1, i, G1, [tokD 1], s1.2, a1.sit.right, .cons (.inr ⟨1, rfl, rfl⟩) .nil, rfl, ?_⟩
    show PostW cls (Ww cls C i) G1 H1 (if s1.2.2.length < 1000000 then .ok (.int s1.2.2.length, s1.2) else .bad) _ _
    rw [if_pos hd.2]
    intro v' G' H' g S rv
    have hv' := (rv.dg (isD_tok rfl)).of_int
    have := hd.2
    exact ⟨_, hv', by omega, by omega, p1 _ G' H' (g.weak fun _ z => .inr z) (a1.sit.joinR g S) (.inl (.int _))⟩
  · rw [if_neg hd] at p1; exact p1.elim
end
end DL

/-! DLR: objects made, methods that read, a try around calls of an object -/
namespace DL
open PySem PySem.Spec PyProof.Rows L2
/-! ### a new object comes into the world -/
def noT (ρ : Env) : Bool := ρ.all fun o => match o with
  | some d => !isT 1 d
  | none => true
theorem noT_get {ρ : Env} {i : Nat} {d : PD} (h : noT ρ = true) (e : ρ[i]? = some (some d)) : isT 1 d = false := by
  have := List.all_eq_true.mp h (some d) (List.mem_of_getElem? e)
  simpa using this
theorem Rp.wide {W1 W2 : Wd} {G : Hp} {v : V} {d : PD} (r : Rp W1.tk G v d) (h : isT 1 d = false) : Rp (W1.and W2).tk G v d := by
  rcases r with r | ⟨k, e, q⟩
  · exact .inl r
  · subst e
    have hk : ¬ k = 1 := fun z => by subst z; cases h
    exact .inr ⟨k, rfl, by rw [q]; show _ = (if k = 1 then W2.tk 1 else W1.tk k); rw [if_neg hk]⟩
section
variable {X : Cx} {O O' : List Nat} {W W2 : Wd} {G0 H0 : Hp} {E E' : XK} {σ : St} {G1 H1 H2 : Hp} {ρ : Env} {s1 : W.d} {t : W2.d}
theorem At.enter (a : At ⟨W, G0, H0, E⟩ O σ H1 G1 ρ s1) (nf : ∀ x, W2.fp x → H1 x = none) (nf2 : ∀ x, W2.fp x → H2 x ≠ none) (hk : ∀ x o, H1 x = some o → H2 x = some o) (hd : ∀ x, H2 x = none → H1 x = none) (r : W2.rep t G1 H2) (nt : noT ρ = true) :
    At ⟨W.and W2, G0, H0, E'⟩ O σ H2 G1 ρ (s1, t) := by
  refine ⟨⟨fun x o e => hk x o (a.sit.sub x o e), fun x f => ?_, fun x f => ?_, W.keep a.sit.rep (fun _ _ e => e) fun x o _ e => hk x o e, r, fun x f g => a.sit.fpH x f (nf x g)⟩, ?_, a.rs.len, fun i d e n => ?_, fun i d e m => ?_, a.rs.apart⟩
  · rcases f with f | f
    · exact a.sit.fpG x f
    · cases e : G1 x with
      | none => rfl
      | some o => have := a.sit.sub x o e; rw [nf x f] at this; cases this
  · rcases f with f | f
    · exact fun z => a.sit.fpH x f (hd x z)
    · exact nf2 x f
  · exact (a.gr.weak fun _ z => .inl z).trans ⟨fun _ _ e => e, fun x o _ e => hk x o e, hd, fun _ _ e => .inl e⟩
  · obtain ⟨v, h1, h2⟩ := a.rs.plain i d e n
    exact ⟨v, h1, h2.wide (noT_get nt e)⟩
  · obtain ⟨p, vs, ds, h1, h2, h3, h4, h5, h6, h7⟩ := a.rs.own i d e m
    refine ⟨p, vs, ds, h1, h2, hk _ _ h3, h4, h5, h6, fun z => ?_⟩
    rcases z with z | z
    · exact h7 z
    · rw [nf p z] at h3; cases h3
/-- .. and is forgotten at the end -/
def outNew {t1 t2 : Type} (r : R (Fl × (t1 × t2))) : R (Fl × t1) := match r with
  | .ok (.rt d, s) => if isD d then .ok (.rt d, s.1) else .bad
  | _ => .bad
theorem PostS.leave {D : Ends} {r : R (Fl × (W.d × W2.d))} (nf : ∀ x, W2.fp x → H0 x = none) (p : PostS ⟨W, G0, H0, E⟩ O' D (outNew r)) : PostS ⟨W.and W2, G0, H0, E'⟩ O' D r := by
  cases r with
  | bad => exact p.elim
  | exc c => exact p.elim
  | ok y =>
    obtain ⟨fl, s⟩ := y
    cases fl with
    | nx ρ => exact p.elim
    | bk ρ => exact p.elim
    | ct ρ => exact p.elim
    | rt d =>
      unfold outNew at p
      dsimp only at p
      by_cases hd : isD d = true
      · rw [if_pos hd] at p
        intro v G' H' g S rv
        refine p v G' H' ⟨g.g, fun x o n e => g.h x o (fun z => ?_) e, g.dom, g.new⟩ S.left (.inl (rv.dg (isD_tok hd)))
        rcases z with z | z
        · exact n z
        · have e : H0 x = some o := e
          rw [nf x z] at e; cases e
      · rw [if_neg hd] at p; exact p.elim
end
/-! ### x = Watch(e) -/
def newW {t1 : Type} (d : PD) (s1 : t1) (k : t1 × Wt → R (Fl × (t1 × Wt))) : R (Fl × t1) := match d, m_check_threshold [d] with
  | .int t, .ok _ => outNew (k (s1, (t, [])))
  | _, _ => .bad
def sNewW {t1 : Type} (i : Nat) (fe : Env → t1 → R (PD × t1)) (fr : Env → t1 × Wt → R (Fl × (t1 × Wt))) : Env → t1 → R (Fl × t1) := fun ρ s =>
  bnd (fe ρ s) fun d s1 => if noT ρ = true then newW d s1 (fr (ρ.set i (some (tokD 1)))) else .bad
def sNewW2 {t1 : Type} (i j : Nat) (fe : Env → t1 → R (PD × t1)) (fr : Env → t1 × Wt → R (Fl × (t1 × Wt))) : Env → t1 → R (Fl × t1) := fun ρ s =>
  bnd (fe ρ s) fun d s1 => if noT ρ = true then newW d s1 (fr ((ρ.set i (some (tokD 1))).set j (some (.list [])))) else .bad
section
variable {X : Cx} {O O' : List Nat} {W : Wd} {G0 H0 : Hp}
theorem new_watch {C : Addr} {E : XK} {σ : St} {G1 H1 : Hp} {ρ : Env} {s1 : W.d} {v : V} {d : PD} {D : Ends} {Q : V → Hp → Prop} {k : W.d × Wt → R (Fl × (W.d × Wt))} (a1 : At ⟨W, G0, H0, E⟩ O σ H1 G1 ρ s1) (rv : Rp W.tk G1 v d) (nt : noT ρ = true) (p1 : PostS ⟨W, G0, H0, E⟩ O' D (newW d s1 k))
    (h : ∀ (i : Addr × Addr × Addr) (H2 : Hp) (t : Int), At ⟨W.and (Ww W.cls C i), G0, H0, E⟩ O σ H2 G1 ρ (s1, (t, [])) → PostS ⟨W.and (Ww W.cls C i), G0, H0, E⟩ O' D (k (s1, (t, []))) → Q (.ref i.1) H2) :
    ∀ x dx, H1 x = none → H1 dx = none → dx ≠ x → spInitW W.cls C [.ref x, v] (upd (upd H1 dx (.own x)) x (.ins C dx [])) (fun v H2 => v = .non ∧ Q (.ref x) H2) E0 := by
  intro x dx nx ndx ne
  unfold newW at p1
  split at p1
  · rename_i t q hq
    have rv' := rv.dg (isD_tok rfl)
    have hk0 : ∀ y o, H1 y = some o → (upd (upd H1 dx (.own x)) x (.ins C dx [])) y = some o := fun y o e => by
      rw [upd_ne (ne_of_none e nx), upd_ne (ne_of_none e ndx)]; exact e
    refine ⟨x, dx, v, G1, .int t, rfl, fun y o e => hk0 y o (a1.sit.sub y o e), upd_same, ?_, rv', ?_⟩
    · rw [upd_ne ne, upd_same]
    · rw [hq]
      refine ⟨t, rfl, fun l H' nl hk hd hx hl => ⟨rfl, ?_⟩⟩
      have lx : l ≠ x := fun z => by rw [z, upd_same] at nl; cases nl
      have ldx : l ≠ dx := fun z => by rw [z, upd_ne ne, upd_same] at nl; cases nl
      have nl1 : H1 l = none := by rw [upd_ne lx, upd_ne ldx] at nl; exact nl
      have nf : ∀ y, (Ww W.cls C (x, dx, l)).fp y → H1 y = none := fun y z => by
        rcases z with z | z | z
        · rw [z]; exact nx
        · rw [z]; exact ndx
        · rw [z]; exact nl1
      have hdx : H' dx = some (.own x) := hk dx _ ne (by rw [upd_ne ne, upd_same])
      refine h (x, dx, l) H' t (At.enter a1 nf (fun y z => ?_) (fun y o e => hk y o (ne_of_none e nx) (hk0 y o e)) (fun y z => ?_) ⟨⟨Ne.symm ne, Ne.symm lx, Ne.symm ldx⟩, hx, hdx, [], hl, .nil⟩ nt) (PostS.leave (fun y z => a1.gr.dom y (nf y z)) p1)
      · rcases z with z | z | z
        · rw [z]; show H' x ≠ none; rw [hx]; exact fun q => by cases q
        · rw [z]; show H' dx ≠ none; rw [hdx]; exact fun q => by cases q
        · rw [z]; show H' l ≠ none; rw [hl]; exact fun q => by cases q
      · have h1 := hd y z
        have yx : y ≠ x := fun q => by rw [q, upd_same] at h1; cases h1
        have ydx : y ≠ dx := fun q => by rw [q, upd_ne ne, upd_same] at h1; cases h1
        rw [upd_ne yx, upd_ne ydx] at h1; exact h1
  · exact p1.elim
theorem dss_newW (i : Nat) {C f : Addr} {fd : FuncData} {k : Nat} {x : Str} {e : Expr} {fe : Mx ⟨W, G0, H0, E0⟩ PD} {rest : List Stmt} {fr : Env → W.d × Wt → R (Fl × (W.d × Wt))} {p cpos pos pos' : Pos} (hN : X.N.Nodup) (T : WaC X.K X.mg C) (M : Mk X.K C f)
    (F : FnOk X.prog X.w X.K X.mg X.base (L2.CX X.prog X.w) k f fd ["self", "threshold"] (spInitW W.cls C)) (hb : Binds X.K fd ["self", "threshold"] []) (hr : Room (k + 1) X.A) (he : DE X ⟨W, G0, H0, E0⟩ O e fe) (hrest : ∀ j, DSs X ⟨W.and (Ww W.cls C j), G0, H0, E0⟩ O O' rest fr)
    (hi : X.N[i]? = some x := by rfl) (hx : Loc X.env.scope x := by first | exact Or.inl rfl | exact Or.inr rfl) (hO : i ∉ O := by decide) (hg : Gl X "Watch" := by rfl)
    (hs : swapsWith (.Call (.Name "Watch" p) [e] [] cpos) (some (.Name x pos')) pos.line X.env = pure false := by rfl) (hf : X.fn x = true ∨ X.env.scope.names.lookup x = some .local := by first | exact .inl rfl | exact .inr rfl)
    (hst : starEach [e] X.env = (false, eval e X.env) :: starEach [] X.env := by rfl) (hpl : (backTo cpos (starEach [] X.env)).any (·.1) = false := by rfl) :
    DSs X ⟨W, G0, H0, E0⟩ O O' (.Assign [.Name x pos'] (.Call (.Name "Watch" p) [e] [] cpos) pos :: rest) (sNewW i fe fr) := by
  have hb' : PSs X rest (fun D σ H' => ∃ j, rdS ⟨W.and (Ww W.cls C j), G0, H0, E0⟩ O O' fr D σ H') := ⟨fun pins s' σ H' D I h => by
    obtain ⟨j, h⟩ := h
    exact (hrest j).run pins s' σ H' D I h⟩
  refine PSs.imp (pss_cons (ps_set hN hi hx (pe_make M F hr hg T.mgC hb .nil passL (pa_cons he pa_nil hst) (by decide) hst hpl) hs hf) hb') fun D σ H h => ?_
  obtain ⟨G, ρ, s, a, q⟩ := h
  refine rdE.thenS a q fun v G1 H1 d s1 a1 g1 rv p1 => ?_
  by_cases nt : noT ρ = true
  · rw [if_pos nt] at p1
    intro y dy ny ndy ne
    refine new_watch (C := C) (O' := O') (D := D) (Q := fun y H2 => ∃ j, rdS ⟨W.and (Ww W.cls C j), G0, H0, E0⟩ O O' fr D (σ.set i (some y)) H2) (k := fr (ρ.set i (some (tokD 1)))) a1 rv nt p1 (fun j H2 t a2 p2 => ?_) y dy ny ndy ne
    refine ⟨j, G1, ρ.set i (some (tokD 1)), (s1, (t, [])), ⟨a2.sit, a2.gr, a2.rs.set (.inr ⟨1, rfl, rfl⟩) hO⟩, p2⟩
  · rw [if_neg nt] at p1; exact p1.elim
/-- x, y = (Watch(e), []) -/
theorem dss_newW2 (i j : Nat) {C f : Addr} {fd : FuncData} {k : Nat} {x y : Str} {e : Expr} {fe : Mx ⟨W, G0, H0, E0⟩ PD} {rest : List Stmt} {fr : Env → W.d × Wt → R (Fl × (W.d × Wt))} {p cpos px py pt pt2 pl pos : Pos} {kt k2 : Nat} (hN : X.N.Nodup) (T : WaC X.K X.mg C) (M : Mk X.K C f)
    (F : FnOk X.prog X.w X.K X.mg X.base (L2.CX X.prog X.w) k f fd ["self", "threshold"] (spInitW W.cls C)) (hb : Binds X.K fd ["self", "threshold"] []) (hr : Room (k + 1) X.A) (he : DE X ⟨W, G0, H0, E0⟩ O e fe) (hrest : ∀ j, DSs X ⟨W.and (Ww W.cls C j), G0, H0, E0⟩ O O' rest fr)
    (hc : X.calm = true := by rfl) (hi : X.N[i]? = some x := by rfl) (hj : X.N[j]? = some y := by rfl) (hij : i ≠ j := by decide) (hx : X.env.scope.names.lookup x = some .local := by rfl) (hy : X.env.scope.names.lookup y = some .local := by rfl) (hOi : i ∉ O := by decide) (hOj : j ∉ O := by decide) (hg : Gl X "Watch" := by rfl)
    (hw : swappedStores [.Tuple [.Name x px, .Name y py] kt pt] (.Tuple [.Call (.Name "Watch" p) [e] [] cpos, .List [] pl] k2 pt2) X.env = pure (some [x, y]) := by rfl)
    (hs : swapsWithSole [.Tuple [.Name x px, .Name y py] kt pt] (.Tuple [.Call (.Name "Watch" p) [e] [] cpos, .List [] pl] k2 pt2) pos.line X.env = pure false := by rfl)
    (hst : starEach [e] X.env = (false, eval e X.env) :: starEach [] X.env := by rfl) (hpl : (backTo cpos (starEach [] X.env)).any (·.1) = false := by rfl) 
    (hs2 : starEach [.Call (.Name "Watch" p) [e] [] cpos, .List [] pl] X.env = (false, eval (.Call (.Name "Watch" p) [e] [] cpos) X.env) :: starEach [.List [] pl] X.env := by rfl) (hs3 : starEach [.List [] pl] X.env = (false, eval (.List [] pl) X.env) :: starEach [] X.env := by rfl) :
    DSs X ⟨W, G0, H0, E0⟩ O O' (.Assign [.Tuple [.Name x px, .Name y py] kt pt] (.Tuple [.Call (.Name "Watch" p) [e] [] cpos, .List [] pl] k2 pt2) pos :: rest) (sNewW2 i j fe fr) := by
  have hb' : PSs X rest (fun D σ H' => ∃ j, rdS ⟨W.and (Ww W.cls C j), G0, H0, E0⟩ O O' fr D σ H') := ⟨fun pins s' σ H' D I h => by
    obtain ⟨j, h⟩ := h
    exact (hrest j).run pins s' σ H' D I h⟩
  refine PSs.imp (pss_cons (ps_par hc hN hi hj hij hx hy (pa_cons (pe_make M F hr hg T.mgC hb .nil passL (pa_cons he pa_nil hst) (by decide) hst hpl) (pa_cons (pe_lst pa_nil) pa_nil hs3) hs2) hw hs) hb') fun D σ H h => ?_
  obtain ⟨G, ρ, s, a, q⟩ := h
  refine rdE.thenS a q fun v G1 H1 d s1 a1 g1 rv p1 => ?_
  by_cases nt : noT ρ = true
  · rw [if_pos nt] at p1
    intro y dy ny ndy ne
    refine new_watch (C := C) (O' := O') (D := D) (Q := fun y H2 => tCons (tLst tNil) tNil σ H2 fun xs H3 => ∃ v w, y :: xs = [v, w] ∧ ∃ jj, rdS ⟨W.and (Ww W.cls C jj), G0, H0, E0⟩ O O' fr D ((σ.set i (some v)).set j (some w)) H3) (k := fr ((ρ.set i (some (tokD 1))).set j (some (.list [])))) a1 rv nt p1 (fun jj H2 t a2 p2 => ?_) y dy ny ndy ne
    refine ⟨Nat.zero_le _, fun l hl => ⟨_, _, rfl, ?_⟩⟩
    have g3 := Gr.alloc (fp := (W.and (Ww W.cls C jj)).fp) (o := .lst []) a2.sit.sub hl
    have a3 := a2.step g3 (a2.sit.alloc hl)
    refine ⟨jj, upd G1 l (.lst []), (ρ.set i (some (tokD 1))).set j (some (.list [])), (s1, (t, [])), ⟨a3.sit, a3.gr, (a3.rs.set (.inr ⟨1, rfl, rfl⟩) hOi).set (.inl (.lst upd_same .nil)) hOj⟩, p2⟩
  · rw [if_neg nt] at p1; exact p1.elim
end
end DL

/-! DLS: methods that only read the list; a def that is handed the object; a try around calls of the object -/
namespace DL
open PySem PySem.Spec PyProof.Rows L2
/-- a watch whose list ds is only read: the state is the threshold -/
def Wrd (cls : Nat → Addr) (C : Addr) (i : Addr × Addr × Addr) (ds : List PD) : Wd where
  d := Int
  fp := fun a => a = i.1 ∨ a = i.2.1
  rep := fun t G H => (i.1 ≠ i.2.1 ∧ i.1 ≠ i.2.2 ∧ i.2.1 ≠ i.2.2) ∧ H i.1 = some (.ins C i.2.1 (wf i.2.2 t)) ∧ H i.2.1 = some (.own i.1) ∧ ∃ vs, G i.2.2 = some (.lst vs) ∧ DgAll G vs ds
  tk := fun _ => .ref i.1
  cls := cls
  keep := fun ⟨n, a, b, vs, c, d⟩ g k => ⟨n, k _ _ (.inl rfl) a, k _ _ (.inr rfl) b, vs, g _ _ c, d.mono g⟩
theorem wf_len (l : Addr) (t : Int) : (wf l t).length < 1000 := by rw [wf_eq]; show 2 < 1000; decide
def cThr {t1 : Type} (o : Env → t1 × Int → R (PD × (t1 × Int))) : Env → t1 × Int → R (PD × (t1 × Int)) := fun ρ s => bnd (o ρ s) fun x s1 => if isT 1 x = true then .ok (.int s1.2, s1) else .bad
def cLnW {t1 : Type} (ds : List PD) (o : Env → t1 × Int → R (PD × (t1 × Int))) : Env → t1 × Int → R (PD × (t1 × Int)) := fun ρ s => bnd (o ρ s) fun x s1 => if isT 1 x = true then .ok (.list ds, s1) else .bad
def sThr {t1 : Type} (fe o : Env → t1 × Int → R (PD × (t1 × Int))) : Env → t1 × Int → R (Fl × (t1 × Int)) := fun ρ s => bnd (fe ρ s) fun d s1 => bnd (o ρ s1) fun x s2 => if isT 1 x = true then (match d with
  | .int t => .ok (.nx ρ, (s2.1, t))
  | _ => .bad) else .bad
section
variable {X : Cx} {O O' : List Nat} {W1 : Wd} {cls : Nat → Addr} {C : Addr} {i : Addr × Addr × Addr} {ds : List PD} {G0 H0 : Hp} {E : XK}
theorem de_thr {o : Expr} {fo : Mx ⟨W1.and (Wrd cls C i ds), G0, H0, E⟩ PD} {pos : Pos} (T : WaC X.K X.mg C) (ho : DE X ⟨W1.and (Wrd cls C i ds), G0, H0, E⟩ O o fo) (hb : attributeBase o "threshold" X.env (eval o X.env) = eval o X.env := by rfl) :
    DE X ⟨W1.and (Wrd cls C i ds), G0, H0, E⟩ O (.Attribute o "threshold" pos) (cThr (t1 := W1.d) fo) :=
  PE.imp (pe_fld ho hb) fun σ H Q h => by
    obtain ⟨G, ρ, s, a, p⟩ := h
    refine rdE.then a p fun v G1 H1 dx s1 a1 g1 rx p1 => ?_
    by_cases hd : isT 1 dx = true
    · rw [if_pos hd] at p1
      have r := a1.sit.rep.2.1
      exact ⟨i.1, C, i.2.1, _, .int s1.2, rx.isT1 hd, r.2.1, T.cl, T.nT, wf_thr _ _, p1.done a1.sit (.inl (.int _))⟩
    · rw [if_neg hd] at p1; exact p1.elim
theorem de_line {o : Expr} {fo : Mx ⟨W1.and (Wrd cls C i ds), G0, H0, E⟩ PD} {pos : Pos} (T : WaC X.K X.mg C) (ho : DE X ⟨W1.and (Wrd cls C i ds), G0, H0, E⟩ O o fo) (hb : attributeBase o "line" X.env (eval o X.env) = eval o X.env := by rfl) :
    DE X ⟨W1.and (Wrd cls C i ds), G0, H0, E⟩ O (.Attribute o "line" pos) (cLnW (t1 := W1.d) ds fo) :=
  PE.imp (pe_fld ho hb) fun σ H Q h => by
    obtain ⟨G, ρ, s, a, p⟩ := h
    refine rdE.then a p fun v G1 H1 dx s1 a1 g1 rx p1 => ?_
    by_cases hd : isT 1 dx = true
    · rw [if_pos hd] at p1
      obtain ⟨n, r1, r2, vs, r3, r4⟩ := a1.sit.rep.2.1
      exact ⟨i.1, C, i.2.1, _, .ref i.2.2, rx.isT1 hd, r1, T.cl, T.nL, wf_line _ _, p1.done a1.sit (.inl (.lst r3 r4))⟩
    · rw [if_neg hd] at p1; exact p1.elim
theorem ds_thr {o e : Expr} {fo fe : Mx ⟨W1.and (Wrd cls C i ds), G0, H0, E⟩ PD} {pos pos' : Pos} (T : WaC X.K X.mg C) (ho : DE X ⟨W1.and (Wrd cls C i ds), G0, H0, E⟩ O o fo) (he : DE X ⟨W1.and (Wrd cls C i ds), G0, H0, E⟩ O e fe) (hs : swapsWith e (some (.Attribute o "threshold" pos')) pos.line X.env = pure false := by rfl) :
    DS X ⟨W1.and (Wrd cls C i ds), G0, H0, E⟩ O O (.Assign [.Attribute o "threshold" pos'] e pos) (sThr (t1 := W1.d) fe fo) :=
  PS.imp (ps_fld ho he hs) fun D σ H h => by
    obtain ⟨G, ρ, s, a, p⟩ := h
    refine rdE.thenS a p fun w G1 H1 d s1 a1 g1 rw' p1 => ?_
    refine rdE.thenS a1 p1 fun v G2 H2 dx s2 a2 g2 rx p2 => ?_
    by_cases hd : isT 1 dx = true
    · rw [if_pos hd] at p2
      cases d with
      | int t =>
        have p2 : PostS ⟨W1.and (Wrd cls C i ds), G0, H0, E⟩ O D (.ok (.nx ρ, (s2.1, t))) := p2
        have hw := (rw'.dg (isD_tok rfl)).of_int
        obtain ⟨rp1, ⟨n, r1, r2, vs, r3, r4⟩, dj⟩ := a2.sit.rep
        refine ⟨i.1, C, i.2.1, _, rx.isT1 hd, r1, T.cl, T.nT, wf_len _ _, ?_⟩
        subst hw
        have nf1 : ∀ a, W1.fp a → a ≠ i.1 := fun a f z => dj a f (.inl z)
        have S := Sit.upd (W := W1.and (Wrd cls C i ds)) (s' := (s2.1, t)) (p := i.1) (o := .ins C i.2.1 (wf i.2.2 t)) a2.sit (.inr (.inl rfl)) ⟨W1.keep rp1 (fun _ _ e => e) fun a o f e => by rw [upd_ne (nf1 a f)]; exact e, ⟨n, upd_same, by rw [upd_ne (Ne.symm n.1)]; exact r2, vs, r3, r4⟩, dj⟩
        exact (congrArg (fun z => D.nx σ (upd H2 i.1 (.ins C i.2.1 z))) (wf_put i.2.2 s2.2 t)).mpr (p2 σ G2 _ (a2.step S.2 S.1))
      | _ => exact p2.elim
    · rw [if_neg hd] at p2; exact p2.elim
end
/-! ### x[e] += k, x owned -/
section
variable {X : Cx} {B : Bs} {O O' : List Nat}
theorem get_list : PGet X (fun o i H Q => ∃ p xs k z, o = V.ref p ∧ i = V.int k ∧ H p = some (.lst xs) ∧ 0 ≤ k ∧ xs[k.toNat]? = some z ∧ Q z H) := by
  intro pins s σ H o i ov iv Q I ro ri h
  obtain ⟨p, xs, k, z, rfl, rfl, hp, h0, hz, q⟩ := h
  cases ro
  obtain ⟨t, rfl⟩ := ri
  obtain ⟨its, r, pl, hl⟩ := I.list (SqL.of hp)
  obtain ⟨w, ew, rw'⟩ := r.get hz
  have hlen := r.length
  have hn := line63
  have hk : k.toNat < xs.length := (List.getElem?_eq_some_iff.mp hz).1
  exact wpAny_getItem_list pl.isList h0 (by omega) (by simpa using ew) ⟨z, H, I, rw', q⟩
def sAugIx {d : Type} (i : Nat) (fi : Env → d → R (PD × d)) (k : Int) : Env → d → R (Fl × d) := fun ρ s => match ρ[i]? with
  | some (some (.list ds)) => bnd (fi ρ s) fun x s1 => match x with
    | .int j => if 0 ≤ j then (match ds[j.toNat]? with
      | some (.int a) => .ok (.nx (ρ.set i (some (.list (ds.set j.toNat (.int (a + k)))))), s1)
      | _ => .bad) else .bad
    | _ => .bad
  | _ => .bad
theorem DgAll.set {G : Hp} : ∀ {vs : List V} {ds : List PD} {v : V} {d : PD} (j : Nat), DgAll G vs ds → Dg G v d → DgAll G (vs.set j v) (ds.set j d)
  | _, _, _, _, _, .nil, _ => .nil
  | _, _, _, _, 0, .cons _ b, r => .cons r b
  | _, _, _, _, j + 1, .cons a b, r => .cons a (DgAll.set j b r)
theorem ds_augIx (i : Nat) {x : Str} {e : Expr} {fe : Mx B PD} {k : Int} {j : Nat} {p cpos tpos pos : Pos} (he : DE X B O e fe) (hm : i ∈ O := by decide) (hN : X.N[i]? = some x := by rfl) (hv : Vis X.env.scope x := by first | exact Or.inl rfl | exact Or.inr (Or.inl rfl) | exact Or.inr (Or.inr rfl)) (hd : (x == ("__debug__" : Str)) = false := by decide)
    (hcd : (x == ("__classdict__" : Str)) = false := by decide) (ha : ∀ ov iv new, augStore e ov iv new = (do holding [new, ov, iv] (setItem ov iv new); release [new, ov, iv] []; pure .next) := by intros; rfl) : DS X B O O (.AugAssign (.Subscript (.Name x p) e tpos) .Add (.Constant (.int k) j cpos) pos) (sAugIx i fe k) := by
  refine PS.imp (ps_augS (pe_var hN hv hd hcd) he get_list pe_int ip_add set_list ha) fun D σ H h => ?_
  obtain ⟨G, ρ, s, a, q⟩ := h
  unfold sAugIx at q
  split at q
  · rename_i ds e1
    obtain ⟨l, vs, ds', h1, h2, h3, h4, h5, h6, h7, _⟩ := a.own hm e1
    cases h2
    refine ⟨.ref l, h1, ?_⟩
    refine rdE.thenS a q fun w G1 H1 d s1 a1 g1 rv p1 => ?_
    cases d with
    | int n =>
      dsimp only at p1
      split at p1
      · rename_i h0
        split at p1
        · rename_i b eb
          have h3' := g1.h l _ h7 h3
          have n5 : G1 l = none := by
            cases z : G1 l with
            | none => rfl
            | some o =>
              rcases g1.new l o z with y | y
              · rw [h5] at y; cases y
              · rw [h3] at y; cases y
          obtain ⟨v, ev, rv2⟩ := (h4.mono g1.g).get eb
          have hv := rv2.of_int
          subst hv
          have hlt : n.toNat < vs.length := (List.getElem?_eq_some_iff.mp ev).1
          have hix : ixN vs.length n = some n.toNat := by
            unfold ixN
            rw [if_pos h0, if_pos (by omega)]
          refine ⟨l, vs, n, .int b, rfl, (rv.dg (isD_tok rfl)).of_int, h3', h0, ev, b, k, rfl, rfl, l, vs, n, n.toNat, rfl, (rv.dg (isD_tok rfl)).of_int, h3', hix, ?_⟩
          have hdd := DgAll.set n.toNat (h4.mono g1.g) (Dg.int (G := G1) (b + k))
          have ne : ∀ j d', j ∈ O → j ≠ i → ρ[j]? = some (some d') → σ[j]? ≠ some (some (.ref l)) := fun j d' m n ej z => n (a.rs.apart j i l d' _ m hm ej e1 z h1)
          have hset : σ.set i (some (.ref l)) = σ := by
            apply List.ext_getElem?
            intro k
            by_cases hk : i = k
            · subst hk
              rw [List.getElem?_set_self (List.getElem?_eq_some_iff.mp h1).1, h1]
            · rw [List.getElem?_set_ne hk]
          have at2 : At B O (σ.set i (some (.ref l))) (upd H1 l (.lst (vs.set n.toNat (.int (b + k))))) G1 (ρ.set i (some (.list (ds.set n.toNat (.int (b + k)))))) s1 := by
            refine ⟨⟨fun y o hy => ?_, a1.sit.fpG, fun y f z => ?_, B.W.keep a1.sit.rep (fun _ _ e => e) fun y o f hy => ?_⟩, ⟨a1.gr.g, fun y o n hy => ?_, fun y hy => ?_, a1.gr.new⟩, ?_⟩
            · rw [upd_ne (ne_of_none hy n5)]; exact a1.sit.sub y o hy
            · have q : y ≠ l := fun q => h7 (by rw [← q]; exact f)
              rw [upd_ne q] at z; exact a1.sit.fpH y f z
            · have q : y ≠ l := fun q => h7 (by rw [← q]; exact f)
              rw [upd_ne q]; exact hy
            · rw [upd_ne (ne_of_none hy h6)]; exact a1.gr.h y o n hy
            · by_cases z : y = l
              · subst z; exact h6
              · rw [upd_ne z] at hy; exact a1.gr.dom y hy
            · refine RS.setO' a1.rs hm upd_same hdd n5 h6 h7 (fun j d' m n ej => ne j d' m n ej) fun j d' m n ej p' hp' o hp => ?_
              have z : p' ≠ l := fun z => ne j d' m n ej (by rw [← z]; exact hp')
              rw [upd_ne z]; exact hp
          rw [hset] at at2
          exact p1 σ G1 _ at2
        · exact p1.elim
      · exact p1.elim
    | _ => exact p1.elim
  · exact q.elim
end
/-! ### a method whose body only reads the list -/
mutual
def noL : PD → Bool
  | .list _ => false
  | .dict _ => false
  | .tuple xs => noLs xs
  | _ => true
def noLs : List PD → Bool
  | [] => true
  | x :: r => noL x && noLs r
end
def less (G : Hp) (l : Addr) : Hp := fun a => if a = l then none else G a
theorem less_ne {G : Hp} {l a : Addr} (h : a ≠ l) : less G l a = G a := if_neg h
mutual
theorem Dg.less {G : Hp} {l : Addr} {xs : List V} (hl : G l = some (.lst xs)) : ∀ {v : V} {d : PD}, Dg G v d → noL d = true → Dg (less G l) v d
  | _, _, .non, _ => .non
  | _, _, .bl b, _ => .bl b
  | _, _, .int i, _ => .int i
  | _, _, .str x, _ => .str x
  | _, _, .lst _ _, h => by cases h
  | _, _, .tup (a := a) e r, h => .tup (by rw [less_ne fun z => by rw [z, hl] at e; cases e]; exact e) (DgAll.less hl r (by unfold noL at h; exact h))
theorem DgAll.less {G : Hp} {l : Addr} {xs : List V} (hl : G l = some (.lst xs)) : ∀ {vs : List V} {ds : List PD}, DgAll G vs ds → noLs ds = true → DgAll (less G l) vs ds
  | _, _, .nil, _ => .nil
  | _, _, .cons a b, h => by
    unfold noLs at h
    rw [Bool.and_eq_true] at h
    exact .cons (Dg.less hl a h.1) (DgAll.less hl b h.2)
end
def mBodyRd (n : Nat) (fb : List PD → Env → Unit × Int → R (Fl × (Unit × Int))) : List PD → Wt → R (PD × Wt) := fun ds s => match fb s.2 (ds.map some ++ List.replicate n none) ((), s.1) with
  | .ok (.rt d, s') => if noL d then .ok (d, (s'.2, s.2)) else .bad
  | _ => .bad
/-- .. behind a check -/
def mBodyRd1 (n : Nat) (f0 : Env → Unit → R (Fl × Unit)) (fb : List PD → Env → Unit × Int → R (Fl × (Unit × Int))) : List PD → Wt → R (PD × Wt) := fun ds s => match f0 (ds.map some ++ List.replicate n none) () with
  | .exc c => .exc c
  | .ok (.nx ρ, _) => (match fb s.2 ρ ((), s.1) with
    | .ok (.rt d, s') => if noL d then .ok (d, (s'.2, s.2)) else .bad
    | _ => .bad)
  | _ => .bad
section
variable {P : Program} {w : World} {K : PySem.W.Frag} {mg : Str → Option Value} {base : Heap} {x qual : Str} {params : Arguments} {body : List Stmt} {scope : Scope} {f C : Addr} {fd : FuncData} {cls : Nat → Addr}
theorem rd_enter {i : Addr × Addr × Addr} {G H G' H' : Hp} {t : Int} {ds : List PD} {E : XK} {σ : St} {ρ : Env} (S : Sit (Ww cls C i) G H (t, ds)) (a : At ⟨Wp cls (fun _ => .ref i.1), G, H, E⟩ [] σ H' G' ρ ()) :
    ∃ vs, At ⟨(Wp cls (fun _ => .ref i.1)).and (Wrd cls C i ds), upd G' i.2.2 (.lst vs), H', E0⟩ [] σ H' (upd G' i.2.2 (.lst vs)) ρ ((), t) ∧
      ∀ G2 H2 t', Gr ((Wp cls (fun _ => .ref i.1)).and (Wrd cls C i ds)).fp (upd G' i.2.2 (.lst vs)) H' G2 H2 → Sit ((Wp cls (fun _ => .ref i.1)).and (Wrd cls C i ds)) G2 H2 ((), t') → Gr (Ww cls C i).fp G H (DL.less G2 i.2.2) H2 ∧ Sit (Ww cls C i) (DL.less G2 i.2.2) H2 (t', ds) ∧ G2 i.2.2 = some (.lst vs) := by
  obtain ⟨n, r1, r2, vs, r3, r4⟩ := S.rep
  have gr : Gr (fun _ => False) G H G' H' := a.gr
  have sb := a.sit.sub
  have gl : G i.2.2 = none := S.fpG _ (.inr (.inr rfl))
  have gl' : G' i.2.2 = none := gr.fpG (fq := (Ww cls C i).fp) S.fpG S.fpH _ (.inr (.inr rfl))
  have k1 := gr.h _ _ (fun z => z) r1
  have k2 := gr.h _ _ (fun z => z) r2
  have k3 := gr.h _ _ (fun z => z) r3
  have sg : Sub G' (upd G' i.2.2 (.lst vs)) := sub_upd gl'
  have gx : ∀ a, a ≠ i.2.2 → (Ww cls C i).fp a → (upd G' i.2.2 (.lst vs)) a = none := fun a h f => by rw [upd_ne h]; exact gr.fpG (fq := (Ww cls C i).fp) S.fpG S.fpH a f
  refine ⟨vs, ⟨⟨fun a o e => ?_, fun a f => ?_, fun a f => ?_, trivial, ⟨n, k1, k2, vs, upd_same, (r4.mono gr.g).mono sg⟩, fun _ z => z.elim⟩, .refl, a.rs.len, fun j d e n => ?_, fun j d e m => by simp at m, fun j k p d e m => by simp at m⟩, fun G2 H2 t' g S2 => ?_⟩
  · by_cases h : a = i.2.2
    · subst h; rw [upd_same] at e; cases e; exact k3
    · rw [upd_ne h] at e; exact sb a o e
  · rcases f with f | f | f
    · exact f.elim
    · rw [f]; exact gx _ n.2.1 (.inl rfl)
    · rw [f]; exact gx _ n.2.2 (.inr (.inl rfl))
  · rcases f with f | f | f
    · exact f.elim
    · rw [f, k1]; exact fun q => by cases q
    · rw [f, k2]; exact fun q => by cases q
  · obtain ⟨v, h1, h2⟩ := a.rs.plain j d e n
    refine ⟨v, h1, ?_⟩
    rcases h2 with h2 | ⟨q, e2, e3⟩
    · exact .inl (h2.mono sg)
    · refine .inr ⟨q, e2, ?_⟩
      rw [e3]
      show V.ref i.1 = (if q = 1 then V.ref i.1 else V.ref i.1)
      split <;> rfl
  · have e2 : G2 i.2.2 = some (.lst vs) := g.g _ _ upd_same
    obtain ⟨_, ⟨n2, q1, q2, vs2, q3, q4⟩, _⟩ := S2.rep
    have sub3 : Sub G (DL.less G2 i.2.2) := fun a o e => by
      have h : a ≠ i.2.2 := ne_of_none e gl
      rw [less_ne h]
      exact g.g a o (sg a o (gr.g a o e))
    have fpl : ∀ a, ((Wp cls (fun _ => .ref i.1)).and (Wrd cls C i ds)).fp a → (Ww cls C i).fp a := fun a f => by
      rcases f with f | f | f
      · exact f.elim
      · exact .inl f
      · exact .inr (.inl f)
    refine ⟨⟨sub3, fun a o nf e => g.h a o (fun z => nf (fpl a z)) (gr.h a o (fun z => z) e), fun a z => gr.dom a (g.dom a z), fun a o e => ?_⟩, ⟨fun a o e => ?_, fun a f => ?_, fun a f => ?_, n2, q1, q2, vs, S2.sub _ _ e2, r4.mono sub3⟩, e2⟩
    · by_cases h : a = i.2.2
      · unfold DL.less at e; rw [if_pos h] at e; cases e
      · rw [less_ne h] at e
        rcases g.new a o e with z | z
        · rw [upd_ne h] at z; exact gr.new a o z
        · exact .inr (gr.dom a z)
    · by_cases h : a = i.2.2
      · unfold DL.less at e; rw [if_pos h] at e; cases e
      · rw [less_ne h] at e; exact S2.sub a o e
    · by_cases h : a = i.2.2
      · unfold DL.less; rw [if_pos h]
      · rw [less_ne h]
        refine S2.fpG a ?_
        rcases f with f | f | f
        · exact .inr (.inl f)
        · exact .inr (.inr f)
        · exact absurd f h
    · rcases f with f | f | f
      · exact S2.fpH a (.inr (.inl f))
      · exact S2.fpH a (.inr (.inr f))
      · rw [f, S2.sub _ _ e2]; exact fun q => by cases q
theorem fn_rd {N ps : List Str} {k n : Nat} {fb : List PD → Env → Unit × Int → R (Fl × (Unit × Int))} (F : FunD K x qual params body scope [] [] f fd) (S : FnScope N ps scope) (hn : ps.length = n)
    (hbody : ∀ (cdv : Value) (A : Around) (outer : List PySem.Env) (s : Shared) (H : Hp) (E : XK) (tk : Nat → V) (i : Addr × Addr × Addr) (ds : List PD) (G1 H1 : Hp), Room k (A.deeper (envOfC qual scope s.heap.objs.size f cdv)) →
      DSs (cxOf (L2.CX P w) P w K mg base N qual scope f cdv A outer s H E) ⟨(Wp cls tk).and (Wrd cls C i ds), G1, H1, E0⟩ [] [] body (fb ds)) : FnOk P w K mg base (L2.CX P w) (k + 1) f fd ps (spW cls (Ww cls C) n fun _ => mBodyRd (N.length - n) fb) := by
  refine F.ok S (fun vs H Q E h => ?_) (fun cdv A outer s H vs Q E hr h => ?_)
  · obtain ⟨i, G, ds, s, _, r, hl, _⟩ := h
    rw [r.len, hl, hn]
  · obtain ⟨i, G, ds, ⟨t, es⟩, sit, r, hl, p⟩ := h
    have a0 : At ⟨Wp cls (fun _ => .ref i.1), G, H, E⟩ [] (L2.start N vs) H G (startD N ds) () := ⟨⟨sit.sub, fun _ z => z.elim, fun _ z => z.elim, trivial⟩, .refl, RpAll.begin_ (W := Wp cls (fun _ => .ref i.1)) N r⟩
    obtain ⟨us, a1, fin⟩ := rd_enter sit a0
    refine ⟨_, hbody cdv A outer s H E (fun _ => .ref i.1) i es _ _ hr, _, startD N ds, ((), t), a1, ?_⟩
    have p : PostW cls (Ww cls C i) G H (mBodyRd (N.length - n) fb ds (t, es)) Q E := p
    unfold mBodyRd at p
    have e0 : startD N ds = ds.map some ++ List.replicate (N.length - n) none := by unfold startD; rw [hl]
    rw [e0]
    dsimp only at p
    suffices key : ∀ r', fb es (ds.map some ++ List.replicate (N.length - n) none) ((), t) = r' → PostS ⟨(Wp cls (fun _ => .ref i.1)).and (Wrd cls C i es), upd G i.2.2 (.lst us), H, E0⟩ [] { nx := fun _ H' => Q .non H', rt := Q } r' from key _ rfl
    intro r' er
    rw [er] at p
    cases r' with
    | bad => exact p.elim
    | exc c => exact p.elim
    | ok y =>
      obtain ⟨fl, u, t'⟩ := y
      cases fl with
      | nx ρ => exact p.elim
      | bk ρ => exact p.elim
      | ct ρ => exact p.elim
      | rt d =>
        dsimp only at p
        by_cases hd : noL d = true
        · rw [if_pos hd] at p
          intro v G' H' g st rv
          obtain ⟨f1, f2, f3⟩ := fin G' H' t' g st
          have dd : Dg G' v d := by
            rcases rv with rv | ⟨q, e1, e2⟩
            · exact rv
            · exact absurd hd (by rw [e1]; exact fun z => Bool.noConfusion z)
          exact p v _ H' f1 f2 (.inl (dd.less f3 hd))
        · rw [if_neg hd] at p; exact p.elim
theorem fn_rd1 {N ps : List Str} {k n : Nat} {st : Stmt} {rest : List Stmt} {f0 : Env → Unit → R (Fl × Unit)} {fb : List PD → Env → Unit × Int → R (Fl × (Unit × Int))} (F : FunD K x qual params body scope [] [] f fd) (S : FnScope N ps scope) (hn : ps.length = n) (hbd : body = st :: rest)
    (h0 : ∀ (cdv : Value) (A : Around) (outer : List PySem.Env) (s : Shared) (H : Hp) (E : XK) (tk : Nat → V) (G : Hp), Room k (A.deeper (envOfC qual scope s.heap.objs.size f cdv)) →
      DS (cxOf (L2.CX P w) P w K mg base N qual scope f cdv A outer s H E) ⟨Wp cls tk, G, H, E⟩ [] [] st f0)
    (hbody : ∀ (cdv : Value) (A : Around) (outer : List PySem.Env) (s : Shared) (H : Hp) (E : XK) (tk : Nat → V) (i : Addr × Addr × Addr) (ds : List PD) (G1 H1 : Hp), Room k (A.deeper (envOfC qual scope s.heap.objs.size f cdv)) →
      DSs (cxOf (L2.CX P w) P w K mg base N qual scope f cdv A outer s H E) ⟨(Wp cls tk).and (Wrd cls C i ds), G1, H1, E0⟩ [] [] rest (fb ds)) : FnOk P w K mg base (L2.CX P w) (k + 1) f fd ps (spW cls (Ww cls C) n fun _ => mBodyRd1 (N.length - n) f0 fb) := by
  subst hbd
  refine F.ok S (fun vs H Q E h => ?_) (fun cdv A outer s H vs Q E hr h => ?_)
  · obtain ⟨i, G, ds, s, _, r, hl, _⟩ := h
    rw [r.len, hl, hn]
  · obtain ⟨i, G, ds, ⟨t, es⟩, sit, r, hl, p⟩ := h
    have a0 : At ⟨Wp cls (fun _ => .ref i.1), G, H, E⟩ [] (L2.start N vs) H G (startD N ds) () := ⟨⟨sit.sub, fun _ z => z.elim, fun _ z => z.elim, trivial⟩, .refl, RpAll.begin_ (W := Wp cls (fun _ => .ref i.1)) N r⟩
    have hb' : PSs (cxOf (L2.CX P w) P w K mg base N qual scope f cdv A outer s H E) rest (fun D σ H' => ∃ G1 H1, rdS ⟨(Wp cls (fun _ => .ref i.1)).and (Wrd cls C i es), G1, H1, E0⟩ [] [] (fb es) D σ H') := ⟨fun pins s' σ H' D I h => by
      obtain ⟨G1, H1, h⟩ := h
      exact (hbody cdv A outer s H E (fun _ => .ref i.1) i es G1 H1 hr).run pins s' σ H' D I h⟩
    refine ⟨_, pss_cons (h0 cdv A outer s H E (fun _ => .ref i.1) G hr) hb', G, startD N ds, (), a0, ?_⟩
    have p : PostW cls (Ww cls C i) G H (mBodyRd1 (N.length - n) f0 fb ds (t, es)) Q E := p
    unfold mBodyRd1 at p
    have e0 : startD N ds = ds.map some ++ List.replicate (N.length - n) none := by unfold startD; rw [hl]
    rw [e0]
    revert p
    generalize f0 (ds.map some ++ List.replicate (N.length - n) none) () = r0
    intro p
    cases r0 with
    | bad => exact p.elim
    | exc c => exact fun G' H' g => p G' H' g
    | ok y0 =>
      obtain ⟨fl0, u0⟩ := y0
      cases fl0 with
      | rt d => exact p.elim
      | bk d => exact p.elim
      | ct d => exact p.elim
      | nx ρ =>
        intro σ' G' H' a1'
        dsimp only at p
        obtain ⟨us, a1, fin⟩ := rd_enter sit a1'
        refine ⟨_, _, _, ρ, ((), t), a1, ?_⟩
        suffices key : ∀ r', fb es ρ ((), t) = r' → PostS ⟨(Wp cls (fun _ => .ref i.1)).and (Wrd cls C i es), upd G' i.2.2 (.lst us), H', E0⟩ [] { nx := fun _ H' => Q .non H', rt := Q } r' from key _ rfl
        intro r' er
        rw [er] at p
        cases r' with
        | bad => exact p.elim
        | exc c => exact p.elim
        | ok y =>
          obtain ⟨fl, u, t'⟩ := y
          cases fl with
          | nx ρ => exact p.elim
          | bk ρ => exact p.elim
          | ct ρ => exact p.elim
          | rt d =>
            dsimp only at p
            by_cases hd : noL d = true
            · rw [if_pos hd] at p
              intro v G' H' g st rv
              obtain ⟨f1, f2, f3⟩ := fin G' H' t' g st
              have dd : Dg G' v d := by
                rcases rv with rv | ⟨q, e1, e2⟩
                · exact rv
                · exact absurd hd (by rw [e1]; exact fun z => Bool.noConfusion z)
              exact p v _ H' f1 f2 (.inl (dd.less f3 hd))
            · rw [if_neg hd] at p; exact p.elim
end
/-! ### a def that is handed the object, by its body -/
def mBodyO {t : Type} (n : Nat) (fb : Env → Unit × t → R (Fl × (Unit × t))) : List PD → t → R (PD × t) := fun ds s => match fb (ds.map some ++ List.replicate n none) ((), s) with
  | .ok (.rt d, s') => if isD d then .ok (d, s'.2) else .bad
  | .ok (.nx _, s') => .ok (.none, s'.2)
  | _ => .bad
section
variable {P : Program} {w : World} {K : PySem.W.Frag} {mg : Str → Option Value} {base : Heap} {x qual : Str} {params : Arguments} {body : List Stmt} {scope : Scope} {f : Addr} {fd : FuncData} {cls : Nat → Addr} {ι : Type} {Fm : ι → Wd}
theorem RpAll.and {W2 : Wd} {tk : Nat → V} {G : Hp} (h1 : ∀ n, tk n = W2.tk 1) (h2 : ∀ n, W2.tk n = W2.tk 1) : ∀ {vs : List V} {ds : List PD}, RpAll W2.tk G vs ds → RpAll ((Wp cls tk).and W2).tk G vs ds
  | _, _, .nil => .nil
  | _, _, .cons a b => .cons (by
      rcases a with a | ⟨n, e, q⟩
      · exact .inl a
      · refine .inr ⟨n, e, ?_⟩
        rw [q, h2]
        show _ = (if n = 1 then W2.tk 1 else tk n)
        split
        · rfl
        · exact (h1 n).symm) (RpAll.and h1 h2 b)
theorem fn_O {N ps : List Str} {k n : Nat} {fb : ∀ i, Env → Unit × (Fm i).d → R (Fl × (Unit × (Fm i).d))} (F : FunD K x qual params body scope [] [] f fd) (S : FnScope N ps scope) (hn : ps.length = n) (ht : ∀ i n, (Fm i).tk n = (Fm i).tk 1)
    (hbody : ∀ (cdv : Value) (A : Around) (outer : List PySem.Env) (s : Shared) (H : Hp) (E : XK) (i : ι) (G : Hp), Sub G H → Room k (A.deeper (envOfC qual scope s.heap.objs.size f cdv)) →
      DSs (cxOf (L2.CX P w) P w K mg base N qual scope f cdv A outer s H E) ⟨(Wp cls (fun _ => (Fm i).tk 1)).and (Fm i), G, H, E0⟩ [] [] body (fb i)) : FnOk P w K mg base (L2.CX P w) (k + 1) f fd ps (spW cls Fm n fun i => mBodyO (t := (Fm i).d) (N.length - n) (fb i)) := by
  refine F.ok S (fun vs H Q E h => ?_) (fun cdv A outer s H vs Q E hr h => ?_)
  · obtain ⟨i, G, ds, s, _, r, hl, _⟩ := h
    rw [r.len, hl, hn]
  · obtain ⟨i, G, ds, st, sit, r, hl, p⟩ := h
    refine ⟨_, hbody cdv A outer s H E i G sit.sub hr, G, startD N ds, ((), st), ⟨sit.alone, .refl, RpAll.begin_ (W := (Wp cls (fun _ => (Fm i).tk 1)).and (Fm i)) N (r.and (fun _ => rfl) (ht i))⟩, ?_⟩
    have p : PostW cls (Fm i) G H (mBodyO (t := (Fm i).d) (N.length - n) (fb i) ds st) Q E := p
    unfold mBodyO at p
    have e0 : startD N ds = ds.map some ++ List.replicate (N.length - n) none := by unfold startD; rw [hl]
    rw [e0]
    suffices key : ∀ r', fb i (ds.map some ++ List.replicate (N.length - n) none) ((), st) = r' → PostS ⟨(Wp cls (fun _ => (Fm i).tk 1)).and (Fm i), G, H, E0⟩ [] { nx := fun _ H' => Q .non H', rt := Q } r' from key _ rfl
    intro r' er
    rw [er] at p
    cases r' with
    | bad => exact p.elim
    | exc c => exact p.elim
    | ok y =>
      obtain ⟨fl, u⟩ := y
      cases fl with
      | nx ρ => exact fun σ' G' H' a => p .non G' H' (Gr.alone (cls := cls) (tk := fun _ => .non) a.gr) a.sit.right (.inl .non)
      | bk ρ => exact p.elim
      | ct ρ => exact p.elim
      | rt d =>
        dsimp only at p
        by_cases hd : isD d = true
        · rw [if_pos hd] at p
          exact fun v G' H' g st' rv => p v G' H' (Gr.alone (cls := cls) (tk := fun _ => .non) g) st'.right (.inl (rv.dg (isD_tok hd)))
        · rw [if_neg hd] at p; exact p.elim
end
end DL

/-! DLT: errors that leave the state known -/
namespace DL
open PySem PySem.Spec PyProof.Rows L2
inductive RX (a t : Type) where
  | ok (x : a) | exc (c : Nat) (s : t) | bad
def PostSX (B : Bs) (O' : List Nat) (D : Ends) (E' : XK) (r : RX (Fl × B.W.d) B.W.d) : Prop :=
  match r with
  | .ok y => PostS B O' D (.ok y)
  | .exc c s' => ∀ G' H', Gr B.W.fp B.G0 B.H0 G' H' → Sit B.W G' H' s' → E' (.ref (B.W.cls c)) none H'
  | .bad => False
def rdSX (B : Bs) (O O' : List Nat) (E' : XK) (f : Env → B.W.d → RX (Fl × B.W.d) B.W.d) : TS := fun D σ H => ∃ G ρ s, At B O σ H G ρ s ∧ PostSX B O' D E' (f ρ s)
def xIf {d : Type} (t : Env → d → R (Bool × d)) (f g : Env → d → RX (Fl × d) d) : Env → d → RX (Fl × d) d := fun ρ s => match t ρ s with
  | .ok (b, s1) => if b = true then f ρ s1 else g ρ s1
  | _ => .bad
section
variable {X : Cx} {O O' : List Nat} {W : Wd} {G0 H0 : Hp} {E' : XK}
theorem psx_if {c : Expr} {a b : List Stmt} {fc : Mx ⟨W, G0, H0, E0⟩ Bool} {f g : Env → W.d → RX (Fl × W.d) W.d} {pos : Pos} (hc : DT X ⟨W, G0, H0, E0⟩ O c fc) (ha : PSs X a (rdSX ⟨W, G0, H0, E0⟩ O O' E' f)) (hb : PSs X b (rdSX ⟨W, G0, H0, E0⟩ O O' E' g)) : PS X (.If c a b pos) (rdSX ⟨W, G0, H0, E0⟩ O O' E' (xIf fc f g)) :=
  PS.imp (ps_if hc ha hb) fun D σ H h => by
    obtain ⟨G, ρ, s, a, p⟩ := h
    refine ⟨G, ρ, s, a, ?_⟩
    unfold xIf at p
    cases e : fc ρ s with
    | bad => rw [e] at p; exact p.elim
    | exc c => rw [e] at p; exact p.elim
    | ok y =>
      obtain ⟨x, s1⟩ := y
      rw [e] at p
      intro G1 H1 g1 S1
      cases x with
      | true => exact ⟨G1, ρ, s1, a.step g1 S1, p⟩
      | false => exact ⟨G1, ρ, s1, a.step g1 S1, p⟩
end
/-- the outcome of a call of the object's def -/
def outX {t1 t2 : Type} (s1 : t1 × t2) (r : R (PD × t2)) (k : PD → Fl) : RX (Fl × (t1 × t2)) (t1 × t2) := match r with
  | .ok (d, t') => if isD d then .ok (k d, (s1.1, t')) else .bad
  | .exc c => .exc c s1
  | .bad => .bad
def xSetM {t1 t2 : Type} (i n : Nat) (m : List PD → t2 → R (PD × t2)) (o : Env → t1 × t2 → R (PD × (t1 × t2))) (a : Env → t1 × t2 → R (List PD × (t1 × t2))) : Env → t1 × t2 → RX (Fl × (t1 × t2)) (t1 × t2) := fun ρ s => match o ρ s with
  | .ok (x, s0) => if isT 1 x = true then (match a ρ s0 with
    | .ok (ds, s1) => if ds.length + 1 = n ∧ allD ds = true then outX s1 (m (tokD 1 :: ds) s1.2) (fun d => .nx (ρ.set i (some d))) else .bad
    | _ => .bad) else .bad
  | _ => .bad
def xSetM0 {t1 t2 : Type} (i : Nat) (m : List PD → t2 → R (PD × t2)) (o : Env → t1 × t2 → R (PD × (t1 × t2))) : Env → t1 × t2 → RX (Fl × (t1 × t2)) (t1 × t2) := fun ρ s => match o ρ s with
  | .ok (x, s1) => if isT 1 x = true then outX s1 (m [tokD 1] s1.2) (fun d => .nx (ρ.set i (some d))) else .bad
  | _ => .bad
def xCallW {t1 t2 : Type} (n : Nat) (m : List PD → t2 → R (PD × t2)) (a : Env → t1 × t2 → R (List PD × (t1 × t2))) : Env → t1 × t2 → RX (Fl × (t1 × t2)) (t1 × t2) := fun ρ s => match a ρ s with
  | .ok (ds, s1) => if ds.length = n ∧ ds.all (okT 1) = true then outX s1 (m ds s1.2) (fun _ => .nx ρ) else .bad
  | _ => .bad
section
variable {X : Cx} {O O' : List Nat} {W1 W2 : Wd} {G0 H0 : Hp} {E' : XK}
theorem PostW.ofX {G H : Hp} {σ : St} {ρ : Env} {s : (W1.and W2).d} {r : R (PD × W2.d)} {k : PD → Fl} {D : Ends} {Q : VK} (a : At ⟨W1.and W2, G0, H0, E0⟩ O σ H G ρ s) (p : PostSX ⟨W1.and W2, G0, H0, E0⟩ O' D E' (outX s r k))
    (hk : ∀ d t' v G' H', isD d = true → At ⟨W1.and W2, G0, H0, E0⟩ O σ H' G' ρ (s.1, t') → Rp (W1.and W2).tk G' v d → PostS ⟨W1.and W2, G0, H0, E0⟩ O' D (.ok (k d, (s.1, t'))) → Q v H') : PostW W1.cls W2 G H r Q E' := by
  cases r with
  | bad => exact p.elim
  | exc c =>
    intro G' H' g
    have g2 : Gr (fun _ => False) G H G H' := ⟨fun _ _ e => e, g.h, g.dom, fun _ _ e => .inl e⟩
    exact p G H' (a.gr.trans (g2.weak fun _ z => z.elim)) (a.sit.pure g2 fun x o e => g.h x o (fun z => z) (a.sit.sub x o e))
  | ok y =>
    obtain ⟨d, t'⟩ := y
    unfold outX at p
    dsimp only at p
    by_cases hd : isD d = true
    · rw [if_pos hd] at p
      intro v G' H' g S rv
      exact hk d t' v G' H' hd (a.step (g.weak fun _ z => .inr z) (a.sit.joinR g S)) (.inl (rv.dg (isD_tok hd))) p
    · rw [if_neg hd] at p; exact p.elim
theorem psx_setM {ι : Type} {F : ι → Wd} {i : ι} (j : Nat) {k : Nat} {f C : Addr} {fd : FuncData} {ps : List Str} {mn x : Str} {n : Nat} {m : ∀ i, List PD → (F i).d → R (PD × (F i).d)} {o e : Expr} {es : List Expr} {fo : Mx ⟨W1.and (F i), G0, H0, E0⟩ PD} {fa : Mx ⟨W1.and (F i), G0, H0, E0⟩ (List PD)} {apos cpos pos pos' : Pos} {pl : Sem Bool} (hN : X.N.Nodup)
    (hF : FnOk X.prog X.w X.K X.mg X.base (L2.CX X.prog X.w) k f fd ps (spW W1.cls F n m)) (hc : Cls X.K C) (hm : Meth X.K C mn f) (hb : Binds X.K fd ps []) (hi : IsInsM (F i) C mn) (hr : Room k X.A) (hx : Passes (L2.CX X.prog X.w) X E') (ho : DE X ⟨W1.and (F i), G0, H0, E0⟩ O o fo) (ha : DA X ⟨W1.and (F i), G0, H0, E0⟩ O (e :: es) fa)
    (hst : starEach (e :: es) X.env = (false, eval e X.env) :: starEach es X.env := by rfl) (hpl : (backTo cpos (starEach es X.env)).any (·.1) = false := by rfl)
    (hev : eval (.Call (.Attribute o mn apos) (e :: es) [] cpos) X.env = (do
      let ov ← eval o X.env
      standAt apos.atName
      let (f, first) ← holding [ov] (getMethod ov mn pl)
      callWith cpos f first (backTo cpos (starEach (e :: es) X.env)) (backToKw cpos (keywordEach [] X.env))) := by rfl)
    (hj : X.N[j]? = some x := by rfl) (hl : Loc X.env.scope x := by first | exact Or.inl rfl | exact Or.inr rfl) (hO : j ∉ O := by decide)
    (hs : swapsWith (.Call (.Attribute o mn apos) (e :: es) [] cpos) (some (.Name x pos')) pos.line X.env = pure false := by rfl) (hf : X.fn x = true ∨ X.env.scope.names.lookup x = some .local := by first | exact .inl rfl | exact .inr rfl) :
    PS X (.Assign [.Name x pos'] (.Call (.Attribute o mn apos) (e :: es) [] cpos) pos) (rdSX ⟨W1.and (F i), G0, H0, E0⟩ O O E' (xSetM (t1 := W1.d) (t2 := (F i).d) j n (m i) fo fa)) := by
  refine PS.imp (ps_set hN hj hl (pe_meth ho hc hm hF hr hb .nil hx ha hst hpl hev) hs hf) fun D σ H h => ?_
  obtain ⟨G, ρ, s, a, p⟩ := h
  refine ⟨G, ρ, s, a, ?_⟩
  unfold xSetM at p
  cases e1 : fo ρ s with
  | bad => rw [e1] at p; exact p.elim
  | exc c => rw [e1] at p; exact p.elim
  | ok y =>
    obtain ⟨dx, s1⟩ := y
    rw [e1] at p
    dsimp only at p
    intro v G1 H1 g1 S1 rx
    have a1 := a.step g1 S1
    by_cases hd : isT 1 dx = true
    · rw [if_pos hd] at p
      have hv := Rp.isT1 rx hd
      obtain ⟨y, dy, fs, e2, e3, e4⟩ := hi a1.sit.rep.2.1
      refine ⟨y, dy, fs, hv.trans e2, e3, e4, G1, ρ, s1, a1, ?_⟩
      cases e5 : fa ρ s1 with
      | bad => rw [e5] at p; exact p.elim
      | exc c => rw [e5] at p; exact p.elim
      | ok z =>
        obtain ⟨ds, s2⟩ := z
        rw [e5] at p
        dsimp only at p
        intro vs G2 H2 g2 S2 rv
        have a2 := a1.step g2 S2
        by_cases hl2 : ds.length + 1 = n ∧ allD ds = true
        · rw [if_pos hl2] at p
          rw [List.append_nil]
          refine ⟨i, G2, tokD 1 :: ds, s2.2, a2.sit.right, .cons (.inr ⟨1, rfl, hv⟩) (DgAll.rp (rv.dg hl2.2)), hl2.1, PostW.ofX a2 p fun d t' v G' H' hd a' rv' p' => ?_⟩
          exact p' _ G' H' ⟨a'.sit, a'.gr, a'.rs.set rv' hO⟩
        · rw [if_neg hl2] at p; exact p.elim
    · rw [if_neg hd] at p; exact p.elim
theorem psx_setM0 {ι : Type} {F : ι → Wd} {i : ι} (j : Nat) {k : Nat} {f C : Addr} {fd : FuncData} {ps : List Str} {mn x : Str} {m : ∀ i, List PD → (F i).d → R (PD × (F i).d)} {o : Expr} {fo : Mx ⟨W1.and (F i), G0, H0, E0⟩ PD} {apos cpos pos pos' : Pos} {pl : Sem Bool} (hN : X.N.Nodup)
    (hF : FnOk X.prog X.w X.K X.mg X.base (L2.CX X.prog X.w) k f fd ps (spW W1.cls F 1 m)) (hc : Cls X.K C) (hm : Meth X.K C mn f) (hb : Binds X.K fd ps []) (hi : IsInsM (F i) C mn) (hr : Room k X.A) (hx : Passes (L2.CX X.prog X.w) X E') (ho : DE X ⟨W1.and (F i), G0, H0, E0⟩ O o fo)
    (hev : eval (.Call (.Attribute o mn apos) [] [] cpos) X.env = (do
      let ov ← eval o X.env
      standAt apos.atName
      let (f, first) ← holding [ov] (getMethod ov mn pl)
      callWith cpos f first (backTo cpos (starEach [] X.env)) (backToKw cpos (keywordEach [] X.env))) := by rfl)
    (hj : X.N[j]? = some x := by rfl) (hl : Loc X.env.scope x := by first | exact Or.inl rfl | exact Or.inr rfl) (hO : j ∉ O := by decide)
    (hs : swapsWith (.Call (.Attribute o mn apos) [] [] cpos) (some (.Name x pos')) pos.line X.env = pure false := by rfl) (hf : X.fn x = true ∨ X.env.scope.names.lookup x = some .local := by first | exact .inl rfl | exact .inr rfl) :
    PS X (.Assign [.Name x pos'] (.Call (.Attribute o mn apos) [] [] cpos) pos) (rdSX ⟨W1.and (F i), G0, H0, E0⟩ O O E' (xSetM0 (t1 := W1.d) (t2 := (F i).d) j (m i) fo)) := by
  refine PS.imp (ps_set hN hj hl (pe_meth0 ho hc hm hF hr hb .nil hx hev) hs hf) fun D σ H h => ?_
  obtain ⟨G, ρ, s, a, p⟩ := h
  refine ⟨G, ρ, s, a, ?_⟩
  unfold xSetM0 at p
  cases e1 : fo ρ s with
  | bad => rw [e1] at p; exact p.elim
  | exc c => rw [e1] at p; exact p.elim
  | ok y =>
    obtain ⟨dx, s1⟩ := y
    rw [e1] at p
    dsimp only at p
    intro v G1 H1 g1 S1 rx
    have a1 := a.step g1 S1
    by_cases hd : isT 1 dx = true
    · rw [if_pos hd] at p
      have hv := Rp.isT1 rx hd
      obtain ⟨y, dy, fs, e2, e3, e4⟩ := hi a1.sit.rep.2.1
      refine ⟨y, dy, fs, hv.trans e2, e3, e4, i, G1, [tokD 1], s1.2, a1.sit.right, .cons (.inr ⟨1, rfl, hv⟩) .nil, rfl, PostW.ofX a1 p fun d t' v G' H' hd a' rv' p' => ?_⟩
      exact p' _ G' H' ⟨a'.sit, a'.gr, a'.rs.set rv' hO⟩
    · rw [if_neg hd] at p; exact p.elim
theorem psx_callW {ι : Type} {F : ι → Wd} {i : ι} {k : Nat} {f : Addr} {fd : FuncData} {ps : List Str} {x : Str} {n : Nat} {m : ∀ i, List PD → (F i).d → R (PD × (F i).d)} {e : Expr} {es : List Expr} {fa : Mx ⟨W1.and (F i), G0, H0, E0⟩ (List PD)} {p cpos pos : Pos}
    (hF : FnOk X.prog X.w X.K X.mg X.base (L2.CX X.prog X.w) k f fd ps (spW W1.cls F n m)) (hm : X.mg x = some (.ref f)) (hk : PySem.W.keepIn X.K (.ref f) = true) (hb : Binds X.K fd ps []) (ht : ∀ n, (F i).tk n = (F i).tk 1) (hr : Room k X.A) (hx : Passes (L2.CX X.prog X.w) X E') (ha : DA X ⟨W1.and (F i), G0, H0, E0⟩ O (e :: es) fa) (hg : Gl X x := by rfl)
    (hdb : (x == ("__debug__" : Str)) = false := by decide) (he : starEach (e :: es) X.env = (false, eval e X.env) :: starEach es X.env := by rfl) (hpl : (backTo cpos (starEach es X.env)).any (·.1) = false := by rfl)
    (hs : swapsWith (.Call (.Name x p) (e :: es) [] cpos) none pos.line X.env = pure false := by rfl) :
    PS X (.Expr (.Call (.Name x p) (e :: es) [] cpos) pos) (rdSX ⟨W1.and (F i), G0, H0, E0⟩ O O E' (xCallW (t1 := W1.d) (t2 := (F i).d) n (m i) fa)) := by
  refine PS.imp (ps_expr (pe_call hF hr hg hm hk hb .nil hx ha hdb he hpl) hs) fun D σ H h => ?_
  obtain ⟨G, ρ, s, a, p⟩ := h
  refine ⟨G, ρ, s, a, ?_⟩
  unfold xCallW at p
  cases e5 : fa ρ s with
  | bad => rw [e5] at p; exact p.elim
  | exc c => rw [e5] at p; exact p.elim
  | ok z =>
    obtain ⟨ds, s2⟩ := z
    rw [e5] at p
    dsimp only at p
    intro vs G2 H2 g2 S2 rv
    have a2 := a.step g2 S2
    by_cases hl2 : ds.length = n ∧ ds.all (okT 1) = true
    · rw [if_pos hl2] at p
      rw [List.append_nil]
      exact ⟨i, G2, ds, s2.2, a2.sit.right, RpAll.one ht rv hl2.2, hl2.1, PostW.ofX a2 p fun d t' v G' H' hd a' rv' p' => p' _ G' H' a'⟩
    · rw [if_neg hl2] at p; exact p.elim
end
/-! ### try: .. except AlarmError as e: caught = e; return .. if caught is None else _law_error(caught) -/
def sTryX {d : Type} (fb : Env → d → RX (Fl × d) d) (j : Nat) (fe : Env → d → R (PD × d)) (nm : Nat → Str) : Env → d → R (Fl × d) := fun ρ s => match fb ρ s with
  | .ok (.nx ρ', s') => (match ρ'[j]? with
    | some (some .none) => bnd (fe ρ' s') fun v s2 => .ok (.rt v, s2)
    | _ => .bad)
  | .exc c s' => if c < 5 then .ok (.rt (.str (nm c)), s') else .bad
  | _ => .bad
section
variable {X : Cx} {W : Wd} {G0 H0 : Hp}
theorem dss_tryX {body : List Stmt} {e1 : Expr} {fb : Env → W.d → RX (Fl × W.d) W.d} {fe : Mx ⟨W, G0, H0, E0⟩ PD} {nm : Nat → Str} {i j k : Nat} {f : Addr} {fd : FuncData} {ps : List Str} {al : Addr} {np p1 p2 p3 p4 p5 p6 p7 p8 pos pos' posr posi : Pos} {cst : Expr}
    (hex0 : X.ex = []) (hs : X.stack = X.env :: X.outer) (hf : X.env.frame = some X.env.locals) (hN : X.N.Nodup) (hi : X.N[i]? = some ("e" : Str)) (hj : X.N[j]? = some ("caught" : Str)) (hij : i ≠ j) (hln : X.env.kindOf "e" = some .local) (hlm : X.env.scope.names.lookup ("caught" : Str) = some .local)
    (hal : X.mg "AlarmError" = some (.ref al)) (hgl : Gl X "AlarmError") (hexm : ∀ c, c < 5 → PySem.W.exmOne X.K (.ref (W.cls c)) (.ref al) = some true) (hsw : swapsWith (.Name "e" p2) (some (.Name "caught" p1)) p3.line X.env = pure false)
    (hb : ∀ (pn : List (Addr × Obj)) (xe : Value → Shared → Prop) (E' : XK), Takes (X.tr pn xe) (fun c d _ H => E' c d H) → PassesOwn (model X.prog X.w) X.A X.env xe → PSs (X.tr pn xe) body (rdSX ⟨W, G0, H0, E0⟩ [] [] E' fb))
    (he : DE X ⟨W, G0, H0, E0⟩ [] e1 fe) (F : FnOk X.prog X.w X.K X.mg X.base (L2.CX X.prog X.w) k f fd ps (spX W.cls nm)) (hr : Room k X.A) (hmE : X.mg "_law_error" = some (.ref f)) (hk : PySem.W.keepIn X.K (.ref f) = true) (hbd : Binds X.K fd ps []) (hgE : Gl X "_law_error")
    (hpn : PE X cst (tC .non)) (hmk : behindInMarks .Is cst = false) (hst : starEach [.Name "caught" p5] X.env = (false, eval (.Name "caught" p5) X.env) :: starEach [] X.env) (hpl : (backTo p6 (starEach [] X.env)).any (·.1) = false) :
    DSs X ⟨W, G0, H0, E0⟩ [] [] [.Try body [.ExceptHandler (some (.Name "AlarmError" np)) (some "e") [.Assign [.Name "caught" p1] (.Name "e" p2) p3] pos'] [] [] pos, .Return (some (.IfExp (.Compare (.Name "caught" p4) [.Is] [cst] p8) e1 (.Call (.Name "_law_error" p7) [.Name "caught" p5] [] p6) posi)) posr] (sTryX fb j fe nm) := by
  have hv : Vis X.env.scope "caught" := .inl hlm
  have pc : ∀ {p : Pos}, PE X (.Name "caught" p) (tVar j) := fun {p} => pe_var hj hv
  have ret := ps_ret (pos := posr) (pe_ifExp (pos := posi) (pt_cmpR (pos := p8) op_isN (pc (p := p4)) hpn hmk) he (pe_call (p := p7) F hr hgE hmE hk hbd .nil passL (pa_cons (pc (p := p5)) pa_nil hst) (by decide) hst hpl))
  have trY := ps_try_keep (X := X) (body := body) (tb := fun Wx => rdSX ⟨W, G0, H0, E0⟩ [] [] (fun c d H => ∀ σ, Wx c d σ H) fb) (np := np) (p1 := p1) (p2 := p2) (p3 := p3) (pos := pos) (pos' := pos') (c := .ref al) (x := "AlarmError") hex0 hs hf hN hi hj hln hlm ⟨hgl, by decide, .inl hal⟩ (.inl hln) (by decide) (by decide) hsw
    fun Wx pn xe tk' po => hb pn xe _ (tk'.imp fun c d σ H h => h σ) po
  refine PSs.imp (pss_cons trY (pss_cons ret pss_nil)) fun D σ H h => ?_
  obtain ⟨G, ρ, s, a, p⟩ := h
  refine ⟨G, ρ, s, a, ?_⟩
  unfold sTryX at p
  revert p
  cases fb ρ s with
  | bad => exact fun p => p.elim
  | exc c s' =>
    intro p
    dsimp only at p
    by_cases hc : c < 5
    · rw [if_pos hc] at p
      intro G' H' g S' σ'
      refine ⟨hexm c hc, rfl, fun hlen b hb' => ?_⟩
      have hjl : j < σ'.length := by rw [hlen]; exact (List.getElem?_eq_some_iff.mp hj).1
      have hget : (((σ'.set i (some (V.ref b))).set j (some (V.ref b))).set i none)[j]? = some (some (V.ref b)) := by
        rw [List.getElem?_set_ne hij, List.getElem?_set_self (by rw [List.length_set]; exact hjl)]
      refine ⟨V.ref b, hget, rfl, decide (V.ref b = V.non), rfl, ?_⟩
      dsimp only
      rw [if_neg (by simp)]
      refine ⟨V.ref b, hget, b, c, rfl, hc, upd_same, fun H2 k1 k2 => ?_⟩
      have hne : ∀ x o, H' x = some o → x ≠ b := fun x o hx z => by rw [z, hb'] at hx; cases hx
      have kk : ∀ x o, H' x = some o → H2 x = some o := fun x o h1 => k1 x o (hne x o h1) (by rw [upd_ne (hne x o h1)]; exact h1)
      have dm : ∀ x, H2 x = none → H' x = none := fun x hx => by
        have h1 := k2 x hx
        have h2 : x ≠ b := fun z => by rw [z, upd_same] at h1; cases h1
        rw [upd_ne h2] at h1
        exact h1
      have g2 : Gr (fun _ => False) G' H' G' H2 := ⟨fun _ _ e => e, fun x o _ e => kk x o e, dm, fun _ _ e => .inl e⟩
      exact p (.str (nm c)) G' H2 (g.trans (g2.weak fun _ z => z.elim)) (S'.pure g2 fun x o e => kk x o (S'.sub x o e)) (.inl (.str _))
    · rw [if_neg hc] at p; exact p.elim
  | ok y =>
    obtain ⟨fl, s'⟩ := y
    cases fl with
    | nx ρ' =>
      intro p σ' G' H' a'
      dsimp only at p
      cases hρ : ρ'[j]? with
      | none => rw [hρ] at p; exact p.elim
      | some o =>
        cases o with
        | none => rw [hρ] at p; exact p.elim
        | some d =>
          cases d with
          | none =>
            rw [hρ] at p
            dsimp only at p
            obtain ⟨v, hv1, hv2⟩ := a'.rs.plain j .none hρ (by simp)
            have hvn : v = .non := by
              rcases hv2 with r | ⟨n, e, _⟩
              · cases r; rfl
              · cases e
            subst hvn
            refine ⟨V.non, hv1, rfl, decide (V.non = V.non), rfl, ?_⟩
            dsimp only
            rw [if_pos (by simp)]
            refine ⟨G', ρ', s', ⟨a'.sit, a'.gr, a'.rs⟩, ?_⟩
            revert p
            cases fe ρ' s' with
            | ok z =>
              intro p v2 G2 H2 g2 S2 r2
              exact p v2 G2 H2 (a'.gr.trans g2) S2 r2
            | exc c => exact fun p G2 H2 g2 => p G2 H2 (a'.gr.trans g2)
            | bad => exact fun p => p
          | _ => rw [hρ] at p; exact p.elim
    | _ => exact fun p => p.elim
end
end DL

/-! DLU: the watch's methods by their names; what a derivation names -/
namespace DL
open PySem PySem.Spec PyProof.Rows L2
/-- a method of the class Watch -/
structure FnM (P : Program) (w : World) (K : PySem.W.Frag) (mg : Str → Option Value) (base : Heap) (cls : Nat → Addr) (C : Addr) (k : Nat) (x : Str) (n : Nat) (m : List PD → Wt → R (PD × Wt)) : Prop where
  ex : ∃ f fd ps, FnOk P w K mg base (L2.CX P w) k f fd ps (spW cls (Ww cls C) n fun _ => m) ∧ Meth K C x f ∧ Binds K fd ps [] ∧ ¬ x = "line" ∧ ¬ x = "threshold"
/-- its __len__ -/
structure FnL (P : Program) (w : World) (K : PySem.W.Frag) (mg : Str → Option Value) (base : Heap) (cls : Nat → Addr) (C : Addr) (k : Nat) : Prop where
  ex : ∃ f fd, FnOk P w K mg base (L2.CX P w) k f fd ["self"] (spW cls (Ww cls C) 1 fun _ => m_wlen) ∧ Meth K C "__len__" f ∧ Binds K fd ["self"] []
/-- its __init__ -/
structure FnI (P : Program) (w : World) (K : PySem.W.Frag) (mg : Str → Option Value) (base : Heap) (cls : Nat → Addr) (C : Addr) (k : Nat) : Prop where
  ex : ∃ f fd, FnOk P w K mg base (L2.CX P w) k f fd ["self", "threshold"] (spInitW cls C) ∧ Mk K C f ∧ Binds K fd ["self", "threshold"] []
/-- a def that is handed an object -/
structure FnO {ι : Type} (P : Program) (w : World) (K : PySem.W.Frag) (mg : Str → Option Value) (base : Heap) (cls : Nat → Addr) (F : ι → Wd) (k : Nat) (x : Str) (n : Nat) (m : ∀ i, List PD → (F i).d → R (PD × (F i).d)) : Prop where
  ex : ∃ f fd ps, FnOk P w K mg base (L2.CX P w) k f fd ps (spW cls F n m) ∧ mg x = some (.ref f) ∧ PySem.W.keepIn K (.ref f) = true ∧ Binds K fd ps []
theorem Ww_tk {cls : Nat → Addr} {C : Addr} {i : Addr × Addr × Addr} (n : Nat) : (Ww cls C i).tk n = (Ww cls C i).tk 1 := rfl
section
variable {X : Cx} {O O' : List Nat} {W1 : Wd} {C : Addr} {i : Addr × Addr × Addr} {G0 H0 : Hp} {E : XK}
theorem de_mW {cls : Nat → Addr} {k : Nat} {mn : Str} {n : Nat} {m : List PD → Wt → R (PD × Wt)} {o e : Expr} {es : List Expr} {fo : Mx ⟨W1.and (Ww cls C i), G0, H0, E⟩ PD} {fa : Mx ⟨W1.and (Ww cls C i), G0, H0, E⟩ (List PD)} {apos pos : Pos} {pl : Sem Bool}
    (M : FnM X.prog X.w X.K X.mg X.base cls C k mn n m) (T : WaC X.K X.mg C) (hr : Room k X.A) (ho : DE X ⟨W1.and (Ww cls C i), G0, H0, E⟩ O o fo) (ha : DA X ⟨W1.and (Ww cls C i), G0, H0, E⟩ O (e :: es) fa)
    (hst : starEach (e :: es) X.env = (false, eval e X.env) :: starEach es X.env := by rfl) (hpl : (backTo pos (starEach es X.env)).any (·.1) = false := by rfl)
    (hev : eval (.Call (.Attribute o mn apos) (e :: es) [] pos) X.env = (do
      let ov ← eval o X.env
      standAt apos.atName
      let (f, first) ← holding [ov] (getMethod ov mn pl)
      callWith pos f first (backTo pos (starEach (e :: es) X.env)) (backToKw pos (keywordEach [] X.env))) := by rfl) :
    DE X ⟨W1.and (Ww cls C i), G0, H0, E⟩ O (.Call (.Attribute o mn apos) (e :: es) [] pos) (cMethW (t1 := W1.d) (t2 := Wt) n m fo fa) := by
  obtain ⟨f, fd, ps, hF, hm, hb, h1, h2⟩ := M.ex
  exact de_methW (F := Ww cls C) (i := i) hF T.cl hm hb (IsInsM.watch h1 h2) Ww_tk hr ho ha hst hpl hev
theorem de_mW0 {cls : Nat → Addr} {k : Nat} {mn : Str} {m : List PD → Wt → R (PD × Wt)} {o : Expr} {fo : Mx ⟨W1.and (Ww cls C i), G0, H0, E⟩ PD} {apos pos : Pos} {pl : Sem Bool}
    (M : FnM X.prog X.w X.K X.mg X.base cls C k mn 1 m) (T : WaC X.K X.mg C) (hr : Room k X.A) (ho : DE X ⟨W1.and (Ww cls C i), G0, H0, E⟩ O o fo)
    (hev : eval (.Call (.Attribute o mn apos) [] [] pos) X.env = (do
      let ov ← eval o X.env
      standAt apos.atName
      let (f, first) ← holding [ov] (getMethod ov mn pl)
      callWith pos f first (backTo pos (starEach [] X.env)) (backToKw pos (keywordEach [] X.env))) := by rfl) :
    DE X ⟨W1.and (Ww cls C i), G0, H0, E⟩ O (.Call (.Attribute o mn apos) [] [] pos) (cMethW0 (t1 := W1.d) (t2 := Wt) m fo) := by
  obtain ⟨f, fd, ps, hF, hm, hb, h1, h2⟩ := M.ex
  exact de_methW0 (F := Ww cls C) (i := i) hF T.cl hm hb (IsInsM.watch h1 h2) Ww_tk hr ho hev
theorem de_lW {cls : Nat → Addr} {k : Nat} {o : Expr} {fo : Mx ⟨W1.and (Ww cls C i), G0, H0, E⟩ PD} {p pos : Pos} (M : FnL X.prog X.w X.K X.mg X.base cls C k) (hr : Room (k + 1) X.A) (hmg : X.mg "len" = none) (ho : DE X ⟨W1.and (Ww cls C i), G0, H0, E⟩ O o fo) (hg : Gl X "len" := by rfl)
    (he : starEach [o] X.env = (false, eval o X.env) :: starEach [] X.env := by rfl) (hpl : (backTo pos (starEach [] X.env)).any (·.1) = false := by rfl) :
    DE X ⟨W1.and (Ww cls C i), G0, H0, E⟩ O (.Call (.Name "len" p) [o] [] pos) (cLenW (t1 := W1.d) fo) := by
  obtain ⟨f, fd, hF, hm, hb⟩ := M.ex
  exact de_lenW hF hm hb hr hmg ho hg he hpl
theorem de_oW {ι : Type} {F : ι → Wd} {i : ι} {cls : Nat → Addr} {k : Nat} {x : Str} {n : Nat} {m : ∀ i, List PD → (F i).d → R (PD × (F i).d)} {e : Expr} {es : List Expr} {fa : Mx ⟨W1.and (F i), G0, H0, E⟩ (List PD)} {p pos : Pos}
    (M : FnO X.prog X.w X.K X.mg X.base cls F k x n m) (ht : ∀ n, (F i).tk n = (F i).tk 1) (hr : Room k X.A) (ha : DA X ⟨W1.and (F i), G0, H0, E⟩ O (e :: es) fa) (hg : Gl X x := by rfl)
    (hdb : (x == ("__debug__" : Str)) = false := by decide) (he : starEach (e :: es) X.env = (false, eval e X.env) :: starEach es X.env := by rfl) (hpl : (backTo pos (starEach es X.env)).any (·.1) = false := by rfl) : DE X ⟨W1.and (F i), G0, H0, E⟩ O (.Call (.Name x p) (e :: es) [] pos) (cCallW (t1 := W1.d) (t2 := (F i).d) n (m i) fa) := by
  obtain ⟨f, fd, ps, hF, hm, hk, hb⟩ := M.ex
  exact de_callW hF hm hk hb ht hr ha hg hdb he hpl
end
section
variable {X : Cx} {O O' : List Nat} {W1 : Wd} {C : Addr} {i : Addr × Addr × Addr} {G0 H0 : Hp} {E' : XK}
theorem psx_mW (j : Nat) {k : Nat} {mn x : Str} {n : Nat} {m : List PD → Wt → R (PD × Wt)} {o e : Expr} {es : List Expr} {fo : Mx ⟨W1.and (Ww W1.cls C i), G0, H0, E0⟩ PD} {fa : Mx ⟨W1.and (Ww W1.cls C i), G0, H0, E0⟩ (List PD)} {apos cpos pos pos' : Pos} {pl : Sem Bool} (hN : X.N.Nodup)
    (M : FnM X.prog X.w X.K X.mg X.base W1.cls C k mn n m) (T : WaC X.K X.mg C) (hr : Room k X.A) (hx : Passes (L2.CX X.prog X.w) X E') (ho : DE X ⟨W1.and (Ww W1.cls C i), G0, H0, E0⟩ O o fo) (ha : DA X ⟨W1.and (Ww W1.cls C i), G0, H0, E0⟩ O (e :: es) fa)
    (hst : starEach (e :: es) X.env = (false, eval e X.env) :: starEach es X.env := by rfl) (hpl : (backTo cpos (starEach es X.env)).any (·.1) = false := by rfl)
    (hev : eval (.Call (.Attribute o mn apos) (e :: es) [] cpos) X.env = (do
      let ov ← eval o X.env
      standAt apos.atName
      let (f, first) ← holding [ov] (getMethod ov mn pl)
      callWith cpos f first (backTo cpos (starEach (e :: es) X.env)) (backToKw cpos (keywordEach [] X.env))) := by rfl)
    (hj : X.N[j]? = some x := by rfl) (hl : Loc X.env.scope x := by first | exact Or.inl rfl | exact Or.inr rfl) (hO : j ∉ O := by decide)
    (hs : swapsWith (.Call (.Attribute o mn apos) (e :: es) [] cpos) (some (.Name x pos')) pos.line X.env = pure false := by rfl) (hf : X.fn x = true ∨ X.env.scope.names.lookup x = some .local := by first | exact .inl rfl | exact .inr rfl) :
    PS X (.Assign [.Name x pos'] (.Call (.Attribute o mn apos) (e :: es) [] cpos) pos) (rdSX ⟨W1.and (Ww W1.cls C i), G0, H0, E0⟩ O O E' (xSetM (t1 := W1.d) (t2 := Wt) j n m fo fa)) := by
  obtain ⟨f, fd, ps, hF, hm, hb, h1, h2⟩ := M.ex
  exact psx_setM (F := Ww W1.cls C) (i := i) j hN hF T.cl hm hb (IsInsM.watch h1 h2) hr hx ho ha hst hpl hev hj hl hO hs hf
theorem psx_mW0 (j : Nat) {k : Nat} {mn x : Str} {m : List PD → Wt → R (PD × Wt)} {o : Expr} {fo : Mx ⟨W1.and (Ww W1.cls C i), G0, H0, E0⟩ PD} {apos cpos pos pos' : Pos} {pl : Sem Bool} (hN : X.N.Nodup)
    (M : FnM X.prog X.w X.K X.mg X.base W1.cls C k mn 1 m) (T : WaC X.K X.mg C) (hr : Room k X.A) (hx : Passes (L2.CX X.prog X.w) X E') (ho : DE X ⟨W1.and (Ww W1.cls C i), G0, H0, E0⟩ O o fo)
    (hev : eval (.Call (.Attribute o mn apos) [] [] cpos) X.env = (do
      let ov ← eval o X.env
      standAt apos.atName
      let (f, first) ← holding [ov] (getMethod ov mn pl)
      callWith cpos f first (backTo cpos (starEach [] X.env)) (backToKw cpos (keywordEach [] X.env))) := by rfl)
    (hj : X.N[j]? = some x := by rfl) (hl : Loc X.env.scope x := by first | exact Or.inl rfl | exact Or.inr rfl) (hO : j ∉ O := by decide)
    (hs : swapsWith (.Call (.Attribute o mn apos) [] [] cpos) (some (.Name x pos')) pos.line X.env = pure false := by rfl) (hf : X.fn x = true ∨ X.env.scope.names.lookup x = some .local := by first | exact .inl rfl | exact .inr rfl) :
    PS X (.Assign [.Name x pos'] (.Call (.Attribute o mn apos) [] [] cpos) pos) (rdSX ⟨W1.and (Ww W1.cls C i), G0, H0, E0⟩ O O E' (xSetM0 (t1 := W1.d) (t2 := Wt) j m fo)) := by
  obtain ⟨f, fd, ps, hF, hm, hb, h1, h2⟩ := M.ex
  exact psx_setM0 (F := Ww W1.cls C) (i := i) j hN hF T.cl hm hb (IsInsM.watch h1 h2) hr hx ho hev hj hl hO hs hf
theorem psx_oW {ι : Type} {F : ι → Wd} {i : ι} {k : Nat} {x : Str} {n : Nat} {m : ∀ i, List PD → (F i).d → R (PD × (F i).d)} {e : Expr} {es : List Expr} {fa : Mx ⟨W1.and (F i), G0, H0, E0⟩ (List PD)} {p cpos pos : Pos}
    (M : FnO X.prog X.w X.K X.mg X.base W1.cls F k x n m) (ht : ∀ n, (F i).tk n = (F i).tk 1) (hr : Room k X.A) (hx : Passes (L2.CX X.prog X.w) X E') (ha : DA X ⟨W1.and (F i), G0, H0, E0⟩ O (e :: es) fa) (hg : Gl X x := by rfl)
    (hdb : (x == ("__debug__" : Str)) = false := by decide) (he : starEach (e :: es) X.env = (false, eval e X.env) :: starEach es X.env := by rfl) (hpl : (backTo cpos (starEach es X.env)).any (·.1) = false := by rfl)
    (hs : swapsWith (.Call (.Name x p) (e :: es) [] cpos) none pos.line X.env = pure false := by rfl) :
    PS X (.Expr (.Call (.Name x p) (e :: es) [] cpos) pos) (rdSX ⟨W1.and (F i), G0, H0, E0⟩ O O E' (xCallW (t1 := W1.d) (t2 := (F i).d) n (m i) fa)) := by
  obtain ⟨f, fd, ps, hF, hm, hk, hb⟩ := M.ex
  exact psx_callW hF hm hk hb ht hr hx ha hg hdb he hpl hs
end
section
variable {X : Cx} {O O' : List Nat} {W : Wd} {G0 H0 : Hp}
theorem dss_nW (i : Nat) {C : Addr} {k : Nat} {x : Str} {e : Expr} {fe : Mx ⟨W, G0, H0, E0⟩ PD} {rest : List Stmt} {fr : Env → W.d × Wt → R (Fl × (W.d × Wt))} {p cpos pos pos' : Pos} (hN : X.N.Nodup) (T : WaC X.K X.mg C) (I : FnI X.prog X.w X.K X.mg X.base W.cls C k)
    (hr : Room (k + 1) X.A) (he : DE X ⟨W, G0, H0, E0⟩ O e fe) (hrest : ∀ j, DSs X ⟨W.and (Ww W.cls C j), G0, H0, E0⟩ O O' rest fr)
    (hi : X.N[i]? = some x := by rfl) (hx : Loc X.env.scope x := by first | exact Or.inl rfl | exact Or.inr rfl) (hO : i ∉ O := by decide) (hg : Gl X "Watch" := by rfl)
    (hs : swapsWith (.Call (.Name "Watch" p) [e] [] cpos) (some (.Name x pos')) pos.line X.env = pure false := by rfl) (hf : X.fn x = true ∨ X.env.scope.names.lookup x = some .local := by first | exact .inl rfl | exact .inr rfl)
    (hst : starEach [e] X.env = (false, eval e X.env) :: starEach [] X.env := by rfl) (hpl : (backTo cpos (starEach [] X.env)).any (·.1) = false := by rfl) :
    DSs X ⟨W, G0, H0, E0⟩ O O' (.Assign [.Name x pos'] (.Call (.Name "Watch" p) [e] [] cpos) pos :: rest) (sNewW i fe fr) := by
  obtain ⟨f, fd, hF, hM, hb⟩ := I.ex
  exact dss_newW i hN T hM hF hb hr he hrest hi hx hO hg hs hf hst hpl
theorem dss_nW2 (i j : Nat) {C : Addr} {k : Nat} {x y : Str} {e : Expr} {fe : Mx ⟨W, G0, H0, E0⟩ PD} {rest : List Stmt} {fr : Env → W.d × Wt → R (Fl × (W.d × Wt))} {p cpos px py pt pt2 pl pos : Pos} {kt k2 : Nat} (hN : X.N.Nodup) (T : WaC X.K X.mg C) (I : FnI X.prog X.w X.K X.mg X.base W.cls C k)
    (hr : Room (k + 1) X.A) (he : DE X ⟨W, G0, H0, E0⟩ O e fe) (hrest : ∀ j, DSs X ⟨W.and (Ww W.cls C j), G0, H0, E0⟩ O O' rest fr)
    (hc : X.calm = true := by rfl) (hi : X.N[i]? = some x := by rfl) (hj : X.N[j]? = some y := by rfl) (hij : i ≠ j := by decide) (hx : X.env.scope.names.lookup x = some .local := by rfl) (hy : X.env.scope.names.lookup y = some .local := by rfl) (hOi : i ∉ O := by decide) (hOj : j ∉ O := by decide) (hg : Gl X "Watch" := by rfl)
    (hw : swappedStores [.Tuple [.Name x px, .Name y py] kt pt] (.Tuple [.Call (.Name "Watch" p) [e] [] cpos, .List [] pl] k2 pt2) X.env = pure (some [x, y]) := by rfl)
    (hs : swapsWithSole [.Tuple [.Name x px, .Name y py] kt pt] (.Tuple [.Call (.Name "Watch" p) [e] [] cpos, .List [] pl] k2 pt2) pos.line X.env = pure false := by rfl)
    (hst : starEach [e] X.env = (false, eval e X.env) :: starEach [] X.env := by rfl) (hpl : (backTo cpos (starEach [] X.env)).any (·.1) = false := by rfl) 
    (hs2 : starEach [.Call (.Name "Watch" p) [e] [] cpos, .List [] pl] X.env = (false, eval (.Call (.Name "Watch" p) [e] [] cpos) X.env) :: starEach [.List [] pl] X.env := by rfl) (hs3 : starEach [.List [] pl] X.env = (false, eval (.List [] pl) X.env) :: starEach [] X.env := by rfl) :
    DSs X ⟨W, G0, H0, E0⟩ O O' (.Assign [.Tuple [.Name x px, .Name y py] kt pt] (.Tuple [.Call (.Name "Watch" p) [e] [] cpos, .List [] pl] k2 pt2) pos :: rest) (sNewW2 i j fe fr) := by
  obtain ⟨f, fd, hF, hM, hb⟩ := I.ex
  exact dss_newW2 i j hN T hM hF hb hr he hrest hc hi hj hij hx hy hOi hOj hg hw hs hst hpl hs2 hs3
end
/-- .. of the watch -/
theorem de_oWw {X : Cx} {O : List Nat} {W1 : Wd} {C : Addr} {i : Addr × Addr × Addr} {G0 H0 : Hp} {E : XK} {cls : Nat → Addr} {k : Nat} {x : Str} {n : Nat} {m : List PD → Wt → R (PD × Wt)} {e : Expr} {es : List Expr} {fa : Mx ⟨W1.and (Ww cls C i), G0, H0, E⟩ (List PD)} {p pos : Pos}
    (M : FnO X.prog X.w X.K X.mg X.base cls (Ww cls C) k x n (fun _ => m)) (hr : Room k X.A) (ha : DA X ⟨W1.and (Ww cls C i), G0, H0, E⟩ O (e :: es) fa) (hg : Gl X x := by rfl)
    (hdb : (x == ("__debug__" : Str)) = false := by decide) (he : starEach (e :: es) X.env = (false, eval e X.env) :: starEach es X.env := by rfl) (hpl : (backTo pos (starEach es X.env)).any (·.1) = false := by rfl) : DE X ⟨W1.and (Ww cls C i), G0, H0, E⟩ O (.Call (.Name x p) (e :: es) [] pos) (cCallW (t1 := W1.d) (t2 := Wt) n m fa) :=
  de_oW (F := Ww cls C) (i := i) M (fun _ => rfl) hr ha hg hdb he hpl
theorem psx_oWw {X : Cx} {O : List Nat} {W1 : Wd} {C : Addr} {i : Addr × Addr × Addr} {G0 H0 : Hp} {E' : XK} {k : Nat} {x : Str} {n : Nat} {m : List PD → Wt → R (PD × Wt)} {e : Expr} {es : List Expr} {fa : Mx ⟨W1.and (Ww W1.cls C i), G0, H0, E0⟩ (List PD)} {p cpos pos : Pos}
    (M : FnO X.prog X.w X.K X.mg X.base W1.cls (Ww W1.cls C) k x n (fun _ => m)) (hr : Room k X.A) (hx : Passes (L2.CX X.prog X.w) X E') (ha : DA X ⟨W1.and (Ww W1.cls C i), G0, H0, E0⟩ O (e :: es) fa) (hg : Gl X x := by rfl)
    (hdb : (x == ("__debug__" : Str)) = false := by decide) (he : starEach (e :: es) X.env = (false, eval e X.env) :: starEach es X.env := by rfl) (hpl : (backTo cpos (starEach es X.env)).any (·.1) = false := by rfl)
    (hs : swapsWith (.Call (.Name x p) (e :: es) [] cpos) none pos.line X.env = pure false := by rfl) :
    PS X (.Expr (.Call (.Name x p) (e :: es) [] cpos) pos) (rdSX ⟨W1.and (Ww W1.cls C i), G0, H0, E0⟩ O O E' (xCallW (t1 := W1.d) (t2 := Wt) n m fa)) :=
  psx_oW (F := Ww W1.cls C) (i := i) M (fun _ => rfl) hr hx ha hg hdb he hpl hs
/-! ### a pure def without errors that leave it -/
def mBody0 (n : Nat) (f : Env → Unit → R (Fl × Unit)) : List PD → R PD := fun ds => match f (ds.map some ++ List.replicate n none) () with
  | .ok (.rt d, _) => .ok d
  | .ok (.nx _, _) => .ok .none
  | _ => .bad
section
variable {P : Program} {w : World} {K : PySem.W.Frag} {mg : Str → Option Value} {base : Heap} {x qual : Str} {params : Arguments} {body : List Stmt} {scope : Scope} {f : Addr} {fd : FuncData} {cls : Nat → Addr}
theorem fn_pure0 {N ps : List Str} {k n : Nat} {fb : Env → Unit → R (Fl × Unit)} (F : FunD K x qual params body scope [] [] f fd) (S : FnScope N ps scope) (hm : mg x = some (.ref f)) (hn : ps.length = n) (hb : Binds K fd ps [])
    (hbody : ∀ (cdv : Value) (A : Around) (outer : List PySem.Env) (s : Shared) (H : Hp) (E : XK) (tk : Nat → V) (G : Hp), Room k (A.deeper (envOfC qual scope s.heap.objs.size f cdv)) →
      DSs (cxOf (L2.CX P w) P w K mg base N qual scope f cdv A outer s H E) ⟨Wp cls tk, G, H, E0⟩ [] [] body fb) : FnP P w K mg base cls (k + 1) x n (mBody0 (N.length - n) fb) := by
  refine ⟨f, fd, ps, F.ok S (fun vs H Q E h => ?_) (fun cdv A outer s H vs Q E hr h => ?_), hm, F.kp, hb⟩
  · obtain ⟨tk, G, ds, _, r, hl, _⟩ := h
    rw [r.len, hl, hn]
  · obtain ⟨tk, G, ds, sb, r, hl, p⟩ := h
    refine ⟨_, hbody cdv A outer s H E tk G hr, G, startD N ds, (), ⟨⟨sb, fun _ z => z.elim, fun _ z => z.elim, trivial⟩, .refl, r.begin_ N⟩, ?_⟩
    unfold mBody0 at p
    have e0 : startD N ds = ds.map some ++ List.replicate (N.length - n) none := by unfold startD; rw [hl]
    rw [e0]
    revert p
    generalize fb (ds.map some ++ List.replicate (N.length - n) none) () = r'
    intro p
    cases r' with
    | bad => exact p.elim
    | exc c => exact p.elim
    | ok y =>
      obtain ⟨fl, u⟩ := y
      cases fl with
      | nx ρ => exact fun σ' G' H' a => p .non G' H' a.gr a.sit.sub (.inl .non)
      | rt d => exact fun v G' H' g st rv => p v G' H' g st.sub rv
      | bk ρ => exact p.elim
      | ct ρ => exact p.elim
end
end DL

/-! DLV: dicts whose keys are tuples of ints -/
namespace DL
open PySem PySem.Spec PyProof.Rows L2
abbrev Kt := List (List Int × PD)
def kK (k : List Int) : List Key := k.map Sum.inl
theorem kK_inj {k l : List Int} (h : kK k = kK l) : k = l := by
  induction k generalizing l with
  | nil =>
    cases l with
    | nil => rfl
    | cons b l => cases h
  | cons a k ih =>
    cases l with
    | nil => cases h
    | cons b l =>
      unfold kK at h
      rw [List.map_cons, List.map_cons] at h
      injection h with h1 h2
      injection h1 with h1
      rw [h1, ih h2]
theorem kK_V (k : List Int) : (kK k).map kV = k.map V.int := by
  unfold kK
  rw [List.map_map]
  rfl
inductive DgKV (G : Hp) : List (List Key × V) → Kt → Prop
  | nil : DgKV G [] []
  | cons {k : List Int} {v : V} {d : PD} {kvs : List (List Key × V)} {s : Kt} : Dg G v d → DgKV G kvs s → DgKV G ((kK k, v) :: kvs) ((k, d) :: s)
theorem DgKV.mono {G G' : Hp} (h : Sub G G') : ∀ {kvs : List (List Key × V)} {s : Kt}, DgKV G kvs s → DgKV G' kvs s
  | _, _, .nil => .nil
  | _, _, .cons a b => .cons (a.mono h) (b.mono h)
theorem DgKV.len {G : Hp} : ∀ {kvs : List (List Key × V)} {s : Kt}, DgKV G kvs s → kvs.length = s.length
  | _, _, .nil => rfl
  | _, _, .cons _ b => by simp [b.len]
def getK (s : Kt) (k : List Int) : Option PD := (s.find? fun kv => decide (kv.1 = k)).map (·.2)
def putD (s : Kt) (k : List Int) (v : PD) : Kt := if (s.any fun kv => decide (kv.1 = k)) = true then s.map (fun kv => if kv.1 = k then (kv.1, v) else kv) else s ++ [(k, v)]
theorem DgKV.get {G : Hp} {k : List Int} : ∀ {kvs : List (List Key × V)} {s : Kt}, DgKV G kvs s → match getK s k with
    | some d => ∃ v, valV kvs (kK k) = some v ∧ Dg G v d
    | none => valV kvs (kK k) = none
  | _, _, .nil => rfl
  | _, _, .cons (k := k') (v := v) (d := d) (kvs := kvs) (s := s) a b => by
    by_cases h : k' = k
    · subst h
      have e1 : getK ((k', d) :: s) k' = some d := by unfold getK; simp
      rw [e1]
      exact ⟨v, valV_pos rfl, a⟩
    · have e1 : getK ((k', d) :: s) k = getK s k := by unfold getK; simp [h]
      rw [e1]
      have e2 : valV ((kK k', v) :: kvs) (kK k) = valV kvs (kK k) := valV_neg fun z => h (kK_inj z)
      rw [e2]
      exact DgKV.get b
theorem DgKV.any {G : Hp} {k : List Int} : ∀ {kvs : List (List Key × V)} {s : Kt}, DgKV G kvs s → (kvs.any fun kv => decide (kv.1 = kK k)) = (s.any fun kv => decide (kv.1 = k))
  | _, _, .nil => rfl
  | _, _, .cons (k := k') a b => by
    rw [List.any_cons, List.any_cons, DgKV.any b]
    congr 1
    by_cases h : k' = k
    · rw [decide_eq_true h, h]; simp
    · rw [decide_eq_false h, decide_eq_false fun z => h (kK_inj z)]
theorem DgKV.app {G : Hp} {k : List Int} {v : V} {d : PD} (r : Dg G v d) : ∀ {kvs : List (List Key × V)} {s : Kt}, DgKV G kvs s → DgKV G (kvs ++ [(kK k, v)]) (s ++ [(k, d)])
  | _, _, .nil => .cons r .nil
  | _, _, .cons a b => .cons a (DgKV.app r b)
theorem DgKV.map {G : Hp} {k : List Int} {v : V} {d : PD} (r : Dg G v d) : ∀ {kvs : List (List Key × V)} {s : Kt}, DgKV G kvs s → DgKV G (kvs.map fun kv => if kv.1 = kK k then (kv.1, v) else kv) (s.map fun kv => if kv.1 = k then (kv.1, d) else kv)
  | _, _, .nil => .nil
  | _, _, .cons (k := k') a b => by
    rw [List.map_cons, List.map_cons]
    by_cases h : k' = k
    · rw [if_pos (by rw [h]), if_pos h]
      exact .cons r (DgKV.map r b)
    · rw [if_neg fun z => h (kK_inj z), if_neg h]
      exact .cons a (DgKV.map r b)
theorem DgKV.put {G : Hp} {k : List Int} {v : V} {d : PD} {kvs : List (List Key × V)} {s : Kt} (h : DgKV G kvs s) (r : Dg G v d) : DgKV G (putK kvs (kK k) v) (putD s k d) := by
  unfold putK putD
  rw [h.any]
  split
  · exact h.map r
  · exact h.app r
/-- the world of a dict -/
def Wk (cls : Nat → Addr) (p : Addr) : Wd where
  d := Kt
  fp := fun a => a = p
  rep := fun s G H => ∃ kvs, H p = some (.dT kvs) ∧ DgKV G kvs s
  tk := fun _ => .ref p
  cls := cls
  keep := fun ⟨kvs, a, b⟩ g k => ⟨kvs, k _ _ rfl a, b.mono g⟩
def toKey : PD → Option (List Int)
  | .tuple xs => toInts xs
  | _ => none
theorem Dg.key {G : Hp} {v : V} {d : PD} {k : List Int} (h : Dg G v d) (e : toKey d = some k) : ∃ b, v = .ref b ∧ G b = some (.tup ((kK k).map kV)) := by
  cases d with
  | tuple xs =>
    obtain ⟨b, vs, rfl, gb, db⟩ := h.of_tup
    rw [toInts_eq e] at db
    have := db.ints
    subst this
    exact ⟨b, rfl, by rw [kK_V]; exact gb⟩
  | _ => cases e
/-! ### x = {} -/
def sNewD {t1 : Type} (i : Nat) (fr : Env → t1 × Kt → R (Fl × (t1 × Kt))) : Env → t1 → R (Fl × t1) := fun ρ s => if noT ρ = true then outNew (fr (ρ.set i (some (tokD 1))) (s, [])) else .bad
section
variable {X : Cx} {O O' : List Nat} {W : Wd} {G0 H0 : Hp} {E : XK}
theorem dss_nD (i : Nat) {x : Str} {rest : List Stmt} {fr : Env → W.d × Kt → R (Fl × (W.d × Kt))} {dpos pos pos' : Pos} (hN : X.N.Nodup) (hrest : ∀ p, DSs X ⟨W.and (Wk W.cls p), G0, H0, E⟩ O O' rest fr)
    (hi : X.N[i]? = some x := by rfl) (hx : Loc X.env.scope x := by first | exact Or.inl rfl | exact Or.inr rfl) (hO : i ∉ O := by decide)
    (hs : swapsWith (.Dict [] [] dpos) (some (.Name x pos')) pos.line X.env = pure false := by rfl) (hf : X.fn x = true ∨ X.env.scope.names.lookup x = some .local := by first | exact .inl rfl | exact .inr rfl) :
    DSs X ⟨W, G0, H0, E⟩ O O' (.Assign [.Name x pos'] (.Dict [] [] dpos) pos :: rest) (sNewD i fr) := by
  have hb' : PSs X rest (fun D σ H' => ∃ p, rdS ⟨W.and (Wk W.cls p), G0, H0, E⟩ O O' fr D σ H') := ⟨fun pins s' σ H' D I h => by
    obtain ⟨j, h⟩ := h
    exact (hrest j).run pins s' σ H' D I h⟩
  refine PSs.imp (pss_cons (ps_set hN hi hx pe_dnewT hs hf) hb') fun D σ H h => ?_
  obtain ⟨G, ρ, s, a, q⟩ := h
  intro p hp
  unfold sNewD at q
  by_cases nt : noT ρ = true
  · rw [if_pos nt] at q
    have a2 : At ⟨W.and (Wk W.cls p), G0, H0, E⟩ O σ (upd H p (.dT [])) G ρ (s, []) := At.enter (W2 := Wk W.cls p) (t := []) a (fun x z => by rw [show x = p from z]; exact hp) (fun x z => by rw [show x = p from z, upd_same]; exact fun q => by cases q) (fun x o e => by rw [upd_ne (ne_of_none e hp)]; exact e) (fun x e => by
      by_cases z : x = p
      · rw [z]; exact hp
      · rw [upd_ne z] at e; exact e) ⟨[], upd_same, .nil⟩ nt
    exact ⟨p, G, ρ.set i (some (tokD 1)), (s, []), ⟨a2.sit, a2.gr, a2.rs.set (.inr ⟨1, rfl, rfl⟩) hO⟩, PostS.leave (W2 := Wk W.cls p) (E := E) (fun x z => by rw [show x = p from z]; exact a.gr.dom p hp) q⟩
  · rw [if_neg nt] at q; exact q.elim
end
/-! ### d[k] = e, d[k], k not in d -/
def sDput {t1 : Type} (fe fd fk : Env → t1 × Kt → R (PD × (t1 × Kt))) : Env → t1 × Kt → R (Fl × (t1 × Kt)) := fun ρ s => bnd (fe ρ s) fun v s1 => bnd (fd ρ s1) fun x s2 => bnd (fk ρ s2) fun k s3 =>
  if isT 1 x = true ∧ isD v = true ∧ isD k = true then (match toKey k with
    | some l => if s3.2.length < 100000 then .ok (.nx ρ, (s3.1, putD s3.2 l v)) else .bad
    | none => .bad) else .bad
def cDget {t1 : Type} (fd fk : Env → t1 × Kt → R (PD × (t1 × Kt))) : Env → t1 × Kt → R (PD × (t1 × Kt)) := fun ρ s => bnd (fd ρ s) fun x s1 => bnd (fk ρ s1) fun k s2 =>
  if isT 1 x = true ∧ isD k = true then (match toKey k with
    | some l => (match getK s2.2 l with
      | some d => .ok (d, s2)
      | none => .bad)
    | none => .bad) else .bad
def cDnotin {t1 : Type} (fk fd : Env → t1 × Kt → R (PD × (t1 × Kt))) : Env → t1 × Kt → R (Bool × (t1 × Kt)) := fun ρ s => bnd (fk ρ s) fun k s1 => bnd (fd ρ s1) fun x s2 =>
  if isT 1 x = true ∧ isD k = true then (match toKey k with
    | some l => .ok (!(getK s2.2 l).isSome, s2)
    | none => .bad) else .bad
section
variable {X : Cx} {O O' : List Nat} {W1 : Wd} {cls : Nat → Addr} {p : Addr} {G0 H0 : Hp} {E : XK}
theorem ds_dput {o k e : Expr} {fe fd fk : Mx ⟨W1.and (Wk cls p), G0, H0, E⟩ PD} {pos pos' : Pos} (hu : X.A.units + 1 < cLine) (ho : DE X ⟨W1.and (Wk cls p), G0, H0, E⟩ O o fd) (hk : DE X ⟨W1.and (Wk cls p), G0, H0, E⟩ O k fk) (he : DE X ⟨W1.and (Wk cls p), G0, H0, E⟩ O e fe) (hs : swapsWith e (some (.Subscript o k pos')) pos.line X.env = pure false := by rfl) :
    DS X ⟨W1.and (Wk cls p), G0, H0, E⟩ O O (.Assign [.Subscript o k pos'] e pos) (sDput (t1 := W1.d) fe fd fk) :=
  PS.imp (ps_dput hu ho hk he hs) fun D σ H h => by
    obtain ⟨G, ρ, s, a, q⟩ := h
    refine rdE.thenS a q fun v G1 H1 dv s1 a1 g1 rv p1 => ?_
    refine rdE.thenS a1 p1 fun x G2 H2 dx s2 a2 g2 rx p2 => ?_
    refine rdE.thenS a2 p2 fun y G3 H3 dk s3 a3 g3 rk p3 => ?_
    by_cases hd : isT 1 dx = true ∧ isD dv = true ∧ isD dk = true
    · rw [if_pos hd] at p3
      cases ek : toKey dk with
      | none => rw [ek] at p3; exact p3.elim
      | some l =>
        rw [ek] at p3
        dsimp only at p3
        by_cases hl : (s3.2 : Kt).length < 100000
        · rw [if_pos hl] at p3
          obtain ⟨b, rfl, gb⟩ := (rk.dg (isD_tok hd.2.2)).key ek
          obtain ⟨rp1, ⟨kvs, hp, dg⟩, dj⟩ := a3.sit.rep
          have dv' := ((rv.mono g2.g).mono g3.g).dg (isD_tok hd.2.1)
          refine ⟨p, _, rx.isT1 hd.1, DPut.t hp (a3.sit.sub _ _ gb) (by rw [dg.len]; exact Nat.lt_of_lt_of_le hl (by decide)), ?_⟩
          have nf1 : ∀ a, W1.fp a → a ≠ p := fun a f z => dj a f z
          have S := Sit.upd (W := W1.and (Wk cls p)) (s' := (s3.1, putD s3.2 l dv)) (p := p) (o := .dT (putK kvs (kK l) v)) a3.sit (.inr rfl) ⟨W1.keep rp1 (fun _ _ e => e) fun a o f e => by rw [upd_ne (nf1 a f)]; exact e, ⟨_, upd_same, dg.put dv'⟩, dj⟩
          exact p3 σ G3 _ (a3.step S.2 S.1)
        · rw [if_neg hl] at p3; exact p3.elim
    · rw [if_neg hd] at p3; exact p3.elim
theorem de_dget {o k : Expr} {fd fk : Mx ⟨W1.and (Wk cls p), G0, H0, E⟩ PD} {pos : Pos} (hu : X.A.units + 1 < cLine) (ho : DE X ⟨W1.and (Wk cls p), G0, H0, E⟩ O o fd) (hk : DE X ⟨W1.and (Wk cls p), G0, H0, E⟩ O k fk) (hs : NoSl k := by intro _ _; rfl) :
    DE X ⟨W1.and (Wk cls p), G0, H0, E⟩ O (.Subscript o k pos) (cDget (t1 := W1.d) fd fk) :=
  PE.imp (pe_dget hu ho hk hs) fun σ H Q h => by
    obtain ⟨G, ρ, s, a, q⟩ := h
    refine rdE.then a q fun x G1 H1 dx s1 a1 g1 rx p1 => ?_
    refine rdE.then a1 p1 fun y G2 H2 dk s2 a2 g2 rk p2 => ?_
    by_cases hd : isT 1 dx = true ∧ isD dk = true
    · rw [if_pos hd] at p2
      cases ek : toKey dk with
      | none => rw [ek] at p2; exact p2.elim
      | some l =>
        rw [ek] at p2
        dsimp only at p2
        obtain ⟨b, rfl, gb⟩ := (rk.dg (isD_tok hd.2)).key ek
        obtain ⟨rp1, ⟨kvs, hp, dg⟩, dj⟩ := a2.sit.rep
        have hg := dg.get (k := l)
        cases eg : getK s2.2 l with
        | none => rw [eg] at p2; exact p2.elim
        | some d =>
          rw [eg] at p2 hg
          obtain ⟨v, ev, rv⟩ := hg
          have gt := DGet.t (k := kK l) hp (a2.sit.sub _ _ gb)
          rw [ev] at gt
          exact ⟨p, v, rx.isT1 hd.1, gt, p2.done a2.sit (.inl rv)⟩
    · rw [if_neg hd] at p2; exact p2.elim
theorem dt_dnotin {o k : Expr} {fd fk : Mx ⟨W1.and (Wk cls p), G0, H0, E⟩ PD} {pos : Pos} (hu : X.A.units + 1 < cLine) (hk : DE X ⟨W1.and (Wk cls p), G0, H0, E⟩ O k fk) (ho : DE X ⟨W1.and (Wk cls p), G0, H0, E⟩ O o fd) (hm : behindInMarks .NotIn o = false := by rfl) :
    DT X ⟨W1.and (Wk cls p), G0, H0, E⟩ O (.Compare k [.NotIn] [o] pos) (cDnotin (t1 := W1.d) fk fd) :=
  PT.imp (pt_cmp (pc_dnotin hu hk ho) hm) fun σ H Q h => by
    obtain ⟨G, ρ, s, a, q⟩ := h
    refine rdE.thenT a q fun y G1 H1 dk s1 a1 g1 rk p1 => ?_
    refine rdE.thenT a1 p1 fun x G2 H2 dx s2 a2 g2 rx p2 => ?_
    by_cases hd : isT 1 dx = true ∧ isD dk = true
    · rw [if_pos hd] at p2
      cases ek : toKey dk with
      | none => rw [ek] at p2; exact p2.elim
      | some l =>
        rw [ek] at p2
        dsimp only at p2
        obtain ⟨b, rfl, gb⟩ := ((rk.mono g2.g).dg (isD_tok hd.2)).key ek
        obtain ⟨rp1, ⟨kvs, hp, dg⟩, dj⟩ := a2.sit.rep
        have hg := dg.get (k := l)
        refine ⟨p, valV kvs (kK l), rx.isT1 hd.1, DGet.t hp (a2.sit.sub _ _ gb), _, rfl, ?_⟩
        cases eg : getK s2.2 l with
        | none =>
          rw [eg] at p2 hg
          rw [hg]
          exact p2.done a2.sit
        | some d =>
          rw [eg] at p2 hg
          obtain ⟨v, ev, rv⟩ := hg
          rw [ev]
          exact p2.done a2.sit
    · rw [if_neg hd] at p2; exact p2.elim
end
end DL

/-! DLW: sum([d[k] for k in d if ..]) over a dict with pairs of ints as keys -/
namespace DL
open PySem PySem.Spec PyProof.Rows L2
def valsK (all : Kt) (x y : Int) : Kt → Option (List Int)
  | [] => some []
  | ([a, b], _) :: r => if a ≤ x ∧ b ≤ y then (match getK all [a, b] with
    | some (.int n) => (valsK all x y r).map (n :: ·)
    | _ => none) else valsK all x y r
  | _ => none
theorem valsK_cons {all : Kt} {x y : Int} {kd : List Int × PD} {r : Kt} {ns : List Int} (h : valsK all x y (kd :: r) = some ns) : ∃ a b, kd.1 = [a, b] ∧ ((¬ (a ≤ x ∧ b ≤ y) ∧ valsK all x y r = some ns) ∨ ((a ≤ x ∧ b ≤ y) ∧ ∃ n ms, getK all [a, b] = some (.int n) ∧ valsK all x y r = some ms ∧ ns = n :: ms)) := by
  obtain ⟨k, d⟩ := kd
  match k, h with
  | [a, b], h =>
    refine ⟨a, b, rfl, ?_⟩
    unfold valsK at h
    by_cases c : a ≤ x ∧ b ≤ y
    · rw [if_pos c] at h
      refine .inr ⟨c, ?_⟩
      split at h
      · rename_i n hn
        cases e : valsK all x y r with
        | none => rw [e] at h; cases h
        | some ms =>
          rw [e] at h
          exact ⟨n, ms, hn, rfl, (Option.some.inj h).symm⟩
      · cases h
    · rw [if_neg c] at h
      exact .inl ⟨c, h⟩
  | [], h => simp [valsK] at h
  | [_], h => simp [valsK] at h
  | _ :: _ :: _ :: _, h => simp [valsK] at h
theorem DgKV.at {G : Hp} : ∀ {kvs : List (List Key × V)} {s : Kt} {i : Nat} {k' : List Key} {v : V}, DgKV G kvs s → kvs[i]? = some (k', v) → ∃ k d, s[i]? = some (k, d) ∧ k' = kK k ∧ Dg G v d
  | _, _, _, _, _, .nil, e => by simp at e
  | _, _, 0, _, _, .cons a _, e => by
    simp only [List.getElem?_cons_zero, Option.some.injEq, Prod.mk.injEq] at e
    obtain ⟨rfl, rfl⟩ := e
    exact ⟨_, _, rfl, rfl, a⟩
  | _, _, i + 1, _, _, .cons _ b, e => by
    rw [List.getElem?_cons_succ] at e ⊢
    exact DgKV.at b e
abbrev Ext (H H' : Hp) : Prop := (∀ c o, H c = some o → H' c = some o) ∧ ∀ c, H' c = none → H c = none
theorem sum_core {K : PySem.W.Frag} {g : TG} {tt : TT} {te : TE} {vs : List Nat} {σ : St} {H G : Hp} {p : Addr} {kvs : List (List Key × V)} {s : Kt} {x y : Int} {ns : List Int} {Q : VK} {iw : Nat}
    (hw : σ[iw]? = some (some (.ref p))) (hp : H p = some (.dT kvs)) (dg : DgKV G kvs s) (hv : valsK s x y s = some ns) (hlen : s.length < 100000)
    (turn : ∀ (a b : Int) (q : Addr) (od : Obj) (H' : Hp) (P1 : Hp → Prop) (P2 : VK), H' q = some (.tup [.int a, .int b]) → H' p = some (.frz od (.dT kvs)) → (¬ (a ≤ x ∧ b ≤ y) → P1 H') →
      ((a ≤ x ∧ b ≤ y) → ∃ v, valV kvs (kK [a, b]) = some v ∧ ∀ H'', Ext H' H'' → P2 v H'') → g (.ref q) (wipe σ vs) H' fun σ2 H2 => wipe σ2 vs = wipe σ vs ∧ tt σ2 H2 fun b H3 => if b = true then te σ2 H3 P2 else P1 H3)
    (hq : ∀ H', Ext H H' → Q (.int ns.sum) H') : tLockE (tCB (rSum K) (tCons (tLc (iKeys (tVar iw)) g tt te vs) tNil)) σ H Q := by
  refine ⟨p, .dT kvs, hp, trivial, fun od => ?_⟩
  refine ⟨.ref p, hw, p, od, rfl, .inr ⟨kvs, upd_same, fun D nD => ?_⟩⟩
  have Dp : D ≠ p := fun z => by rw [z, upd_same] at nD; cases nD
  have hD0 : H D = none := by rw [upd_ne Dp] at nD; exact nD
  have hkl := dg.len
  refine ⟨fun i m H' => i + m = kvs.length ∧ H' p = some (.frz od (.dT kvs)) ∧ (∀ c o, c ≠ p → H c = some o → H' c = some o) ∧ (∀ c, H' c = none → H c = none) ∧ ∃ ms rs, H' D = some (.lst (ms.map V.int)) ∧ valsK s x y (s.drop i) = some rs ∧ ns = ms ++ rs ∧ ms.length ≤ i,
    ⟨kvs.length, by omega, by rw [upd_ne (Ne.symm Dp), upd_same], fun c o n e => ?_, fun c e => ?_, [], ns, upd_same, by rw [List.drop_zero]; exact hv, rfl, Nat.le_refl _⟩, fun i m H' hW => ?_⟩
  · rw [upd_ne (ne_of_none e hD0), upd_ne n]; exact e
  · by_cases z : c = D
    · rw [z]; exact hD0
    · rw [upd_ne z] at e
      by_cases z2 : c = p
      · rw [z2, upd_same] at e; cases e
      · rw [upd_ne z2] at e; exact e
  · obtain ⟨em, h1, h2, h3, ms, rs, h4, h5, h6, h7⟩ := hW
    by_cases hl : i < kvs.length
    · refine .inr ⟨⟨h1, hl⟩, fun H2 => (i + 1) + (m - 1) = kvs.length ∧ H2 p = some (.frz od (.dT kvs)) ∧ (∀ c o, c ≠ p → H c = some o → H2 c = some o) ∧ (∀ c, H2 c = none → H c = none) ∧ ∃ ms rs, H2 D = some (.lst (ms.map V.int)) ∧ valsK s x y (s.drop (i + 1)) = some rs ∧ ns = ms ++ rs ∧ ms.length ≤ i + 1, fun H2 hN => ⟨m - 1, by omega, hN⟩, ?_⟩
      rintro xv H2 ⟨rfl, k', v, q, ek, rfl, hqk⟩
      obtain ⟨k, d, es, rfl, rd⟩ := dg.at ek
      have hls : i < s.length := by rw [← hkl]; exact hl
      rw [List.drop_eq_getElem_cons hls] at h5
      have esi : s[i] = (k, d) := by
        have := List.getElem?_eq_getElem hls
        rw [es] at this
        exact (Option.some.inj this).symm
      rw [esi] at h5
      obtain ⟨a, b, ekab, hc⟩ := valsK_cons h5
      have ekab : k = [a, b] := ekab
      subst ekab
      refine turn a b q od H2 _ _ hqk h1 (fun nc => ?_) (fun c => ?_)
      · rcases hc with ⟨_, hr⟩ | ⟨c, _⟩
        · exact ⟨by omega, h1, h2, h3, ms, rs, h4, hr, h6, by omega⟩
        · exact absurd c nc
      · rcases hc with ⟨nc, _⟩ | ⟨_, n, ms2, hg, hr, hns⟩
        · exact absurd c nc
        · have hgg := dg.get (k := [a, b])
          rw [hg] at hgg
          obtain ⟨w, ew, rw'⟩ := hgg
          refine ⟨w, ew, fun H3 he => ?_⟩
          have := rw'.of_int
          subst this
          refine ⟨ms.map V.int, he.1 _ _ h4, ?_, ?_⟩
          · rw [List.length_map]
            have : sizeLine = 16777216 := sizeLine_eq
            omega
          · refine ⟨by omega, by rw [upd_ne (Ne.symm Dp)]; exact he.1 _ _ h1, fun c o nc e => ?_, fun c e => ?_, ms ++ [n], ms2, by rw [upd_same, List.map_append]; rfl, hr, by rw [h6, hns]; simp, by simp; omega⟩
            · have hcD : c ≠ D := ne_of_none e hD0
              rw [upd_ne hcD]; exact he.1 _ _ (h2 c o nc e)
            · by_cases z : c = D
              · rw [z, upd_same] at e; cases e
              · rw [upd_ne z] at e; exact h3 c (he.2 c e)
    · refine .inl ⟨⟨h1, by omega⟩, D, ns, rfl, SqL.of ?_, h1, hq _ ⟨fun c o e => ?_, fun c e => ?_⟩⟩
      · rw [List.drop_eq_nil_of_le (by omega)] at h5
        have : rs = [] := (Option.some.inj h5).symm
        subst this
        rw [h6, List.append_nil]; exact h4
      · by_cases z : c = p
        · subst z; rw [hp] at e; cases e; exact upd_same
        · rw [upd_ne z]; exact h2 c o z e
      · by_cases z : c = p
        · subst z; rw [upd_same] at e; cases e
        · rw [upd_ne z] at e; exact h3 c e
/-- the mirror -/
def cSumW {t1 : Type} (iw ix iy : Nat) : Env → t1 × Kt → R (PD × (t1 × Kt)) := fun ρ s => match ρ[iw]?, ρ[ix]?, ρ[iy]? with
  | some (some w), some (some (.int x)), some (some (.int y)) => if isT 1 w = true ∧ s.2.length < 100000 then (match valsK s.2 x y s.2 with
    | some ns => .ok (.int ns.sum, s)
    | none => .bad) else .bad
  | _, _, _ => .bad
section
variable {X : Cx} {O O' : List Nat} {W1 : Wd} {cls : Nat → Addr} {p : Addr} {G0 H0 : Hp} {E : XK}
theorem wipe_get {σ : St} {vs : List Nat} {i : Nat} (h : i ∉ vs) : (wipe σ vs)[i]? = σ[i]? := by
  induction vs with
  | nil => rfl
  | cons v vs ih =>
    show ((wipe σ vs).set v none)[i]? = _
    rw [List.getElem?_set_ne (fun z => h (by rw [z]; simp)), ih fun z => h (List.mem_cons_of_mem _ z)]
theorem wipe_len {σ : St} {vs : List Nat} : (wipe σ vs).length = σ.length := by
  induction vs with
  | nil => rfl
  | cons v vs ih => show ((wipe σ vs).set v none).length = _; rw [List.length_set, ih]
/-- sum([d[(a, b)] for a, b in d if a <= x and b <= y]) -/
theorem de_sumW (iw ix iy ia ib : Nat) {e : Expr} (hIa : ia < X.N.length) (hIb : ib < X.N.length)
    (h : PE X e (tLockE (tCB (rSum X.K) (tCons (tLc (iKeys (tVar iw)) (gTup X.K 2 (gCons (gName ia) (gCons (gName ib) gNil))) (tAnd (tTest (tOp (rI0 fun i j => .bl (decide (i ≤ j))) (tVar ia) (tVar ix))) (tTest (tOp (rI0 fun i j => .bl (decide (i ≤ j))) (tVar ib) (tVar iy)))) (tDGet (tVar iw) (tTup (tCons (tVar ia) (tCons (tVar ib) tNil)))) [ia, ib]) tNil))))
    (hwO : iw ∉ O := by decide) (hxO : ix ∉ O := by decide) (hyO : iy ∉ O := by decide) (n1 : ia ≠ ib := by decide) (n2 : iw ∉ [ia, ib] := by decide) (n3 : ix ∉ [ia, ib] := by decide) (n4 : iy ∉ [ia, ib] := by decide) :
    DE X ⟨W1.and (Wk cls p), G0, H0, E⟩ O e (cSumW (t1 := W1.d) iw ix iy) := by
  refine ⟨fun pins sh σ H Q I hq => h.run pins sh σ H Q I ?_⟩
  have hlen := I.len
  obtain ⟨G, ρ, s, a, q⟩ := hq
  unfold cSumW at q
  split at q
  · rename_i w x y e1 e2 e3
    split at q
    · rename_i hc
      split at q
      · rename_i ns hv
        obtain ⟨vw, f1, r1⟩ := a.rs.plain iw _ e1 hwO
        obtain ⟨vx, f2, r2⟩ := a.rs.plain ix _ e2 hxO
        obtain ⟨vy, f3, r3⟩ := a.rs.plain iy _ e3 hyO
        have hvw := Rp.isT1 r1 hc.1
        have hvx := (r2.dg (isD_tok rfl)).of_int
        have hvy := (r3.dg (isD_tok rfl)).of_int
        subst hvw hvx hvy
        obtain ⟨rp1, ⟨kvs, hp, dg⟩, dj⟩ := a.sit.rep
        refine sum_core (x := x) (y := y) f1 hp dg hv hc.2 ?_ fun H' he => ?_
        · intro u v q od H' P1 P2 hq hfz c1 c2
          have ga : ∀ {i : Nat} {z : V}, i ∉ [ia, ib] → σ[i]? = some (some z) → (((wipe σ [ia, ib]).set ia (some (.int u))).set ib (some (.int v)))[i]? = some (some z) := fun {i z} ni e => by
            have h1 : ia ≠ i := fun z => ni (by rw [z]; simp)
            have h2 : ib ≠ i := fun z => ni (by rw [z]; simp)
            rw [List.getElem?_set_ne h2, List.getElem?_set_ne h1, wipe_get ni]; exact e
          have gia : (((wipe σ [ia, ib]).set ia (some (.int u))).set ib (some (.int v)))[ia]? = some (some (.int u)) := by
            rw [List.getElem?_set_ne (Ne.symm n1), List.getElem?_set_self (by rw [wipe_len, hlen]; exact hIa)]
          have gib : (((wipe σ [ia, ib]).set ia (some (.int u))).set ib (some (.int v)))[ib]? = some (some (.int v)) := by
            rw [List.getElem?_set_self (by rw [List.length_set, wipe_len, hlen]; exact hIb)]
          refine ⟨q, _, rfl, SqT.of hq, rfl, .int u, _, rfl, .int v, _, rfl, rfl, ?_, ?_⟩
          · rw [wipe_set_in (by simp), wipe_set_in (by simp)]
            clear ga gia gib
            have tw : ∀ (vs : List Nat) (us : List Nat), (∀ v ∈ vs, v ∈ us) → wipe (wipe σ us) vs = wipe σ us := by
              intro vs us
              induction vs with
              | nil => intro _; rfl
              | cons v vs ih =>
                intro hv
                show (wipe (wipe σ us) vs).set v none = wipe σ us
                rw [ih fun w hw => hv w (List.mem_cons_of_mem _ hw)]
                have hn : ∀ y, (wipe σ us)[v]? ≠ some (some y) := fun y q => (wipe_some q).2 (hv v (by simp))
                apply List.ext_getElem?
                intro k
                by_cases hk : v = k
                · subst hk
                  by_cases hlt : v < (wipe σ us).length
                  · rw [List.getElem?_set_self hlt]
                    cases q : (wipe σ us)[v]? with
                    | none => rw [List.getElem?_eq_none_iff] at q; omega
                    | some y =>
                      cases y with
                      | none => rfl
                      | some y => exact absurd q (hn y)
                  · rw [List.getElem?_eq_none (by rw [List.length_set]; omega), List.getElem?_eq_none (by omega)]
                · rw [List.getElem?_set_ne hk]
            exact tw _ _ fun _ h => h
          · refine ⟨_, gia, _, ga n3 f2, u, x, rfl, rfl, _, rfl, ?_⟩
            by_cases hu : u ≤ x
            · rw [decide_eq_true hu]
              show (if true = true then _ else _)
              rw [if_pos rfl]
              refine ⟨_, gib, _, ga n4 f3, v, y, rfl, rfl, _, rfl, ?_⟩
              by_cases hvy : v ≤ y
              · rw [decide_eq_true hvy]
                show (if true = true then _ else _)
                rw [if_pos rfl]
                obtain ⟨w, ew, k⟩ := c2 ⟨hu, hvy⟩
                refine ⟨_, ga n2 f1, _, gia, _, gib, (by show 2 ≤ sizeLine; decide), fun T hT => ⟨p, w, rfl, .inr ⟨kvs, kK [u, v], T, .inr ⟨od, ?_⟩, rfl, upd_same, ew.symm⟩, k _ ⟨fun c o e => ?_, fun c e => ?_⟩⟩⟩
                · rw [upd_ne fun z => by rw [← z, hfz] at hT; cases hT]; exact hfz
                · rw [upd_ne (ne_of_none e hT)]; exact e
                · by_cases z : c = T
                  · rw [z, upd_same] at e; cases e
                  · rw [upd_ne z] at e; exact e
              · rw [decide_eq_false hvy]
                show (if false = true then _ else _)
                rw [if_neg Bool.false_ne_true]
                exact c1 fun z => hvy z.2
            · rw [decide_eq_false hu]
              show (if false = true then _ else (if false = true then _ else _))
              rw [if_neg Bool.false_ne_true, if_neg Bool.false_ne_true]
              exact c1 fun z => hu z.1
        · have g2 : Gr (fun _ => False) G H G H' := ⟨fun _ _ e => e, fun c o _ e => he.1 c o e, he.2, fun _ _ e => .inl e⟩
          exact q _ G H' (g2.weak fun _ z => z.elim) (a.sit.pure g2 fun c o e => he.1 c o (a.sit.sub c o e)) (.inl (.int _))
      · exact q.elim
    · exact q.elim
  · exact q.elim
end
end DL

/-! DLX: sorted(xs), xs a list of lists of pairs of ints -/
namespace DL
open PySem PySem.Spec PyProof.Rows L2
abbrev Row := List (Int × Int)
def rowD (r : Row) : PD := .list (r.map pD)
def ltP2 (p q : Int × Int) : Bool := decide (p.1 < q.1) || (decide (p.1 = q.1) && decide (p.2 < q.2))
def ltRow : Row → Row → Bool
  | [], [] => false
  | [], _ :: _ => true
  | _ :: _, [] => false
  | p :: r, q :: t => if p.1 = q.1 ∧ p.2 = q.2 then ltRow r t else ltP2 p q
def leRow (a b : Row) : Bool := !ltRow b a
def insR (k : Row) : List Row → List Row
  | [] => [k]
  | x :: r => if leRow k x = true then k :: x :: r else x :: insR k r
def sortR : List Row → List Row
  | [] => []
  | x :: r => insR x (sortR r)
theorem dataLt_row : ∀ a b : Row, PySem.W.dataLt (rowD a) (rowD b) = ltRow a b
  | [], [] => by unfold ltRow; exact PyProof.Rows.lex_irrefl _
  | [], q :: t => by
    show PyProof.Rows.lexLt PyProof.Rows.itemOrd [.inl 0] (.inl 1 :: _) = true
    rw [PyProof.Rows.lex_diff (O := PyProof.Rows.itemOrd) (by decide)]
    rfl
  | p :: r, [] => by
    show PyProof.Rows.lexLt PyProof.Rows.itemOrd (.inl 1 :: _) [.inl 0] = false
    rw [PyProof.Rows.lex_diff (O := PyProof.Rows.itemOrd) (by decide)]
    rfl
  | p :: r, q :: t => by
    show PyProof.Rows.lexLt PyProof.Rows.itemOrd (PySem.W.keyToksAll (pD p :: r.map pD)) (PySem.W.keyToksAll (pD q :: t.map pD)) = _
    rw [PySem.W.dataLt_cons (by simp [pD, PySem.W.alike, PySem.W.alikeAll])]
    have ih := dataLt_row r t
    have e1 : (PyData.eqv (pD p) (pD q) = true) ↔ (p.1 = q.1 ∧ p.2 = q.2) := by simp [pD, PyData.eqv, PyData.eqvAll]
    unfold ltRow
    by_cases h : p.1 = q.1 ∧ p.2 = q.2
    · rw [if_pos (e1.mpr h), if_pos h]
      exact ih
    · rw [if_neg fun z => h (e1.mp z), if_neg h]
      show PySem.W.dataLt (.tuple [.int p.1, .int p.2]) (.tuple [.int q.1, .int q.2]) = _
      rw [PySem.W.dataLt_ii]
      unfold ltP2
      by_cases h1 : p.1 < q.1
      · simp [h1]
      · by_cases h2 : p.1 = q.1
        · by_cases h3 : p.2 < q.2 <;> simp [h1, h2, h3]
        · simp [h1, h2]
theorem toks_inj : ∀ a b : Row, PySem.W.keyToksAll (a.map pD) = PySem.W.keyToksAll (b.map pD) → a = b
  | [], [], _ => rfl
  | [], _ :: _, h => by simp [PySem.W.keyToksAll] at h
  | _ :: _, [], h => by simp [PySem.W.keyToksAll] at h
  | (a1, a2) :: r, (b1, b2) :: t, h => by
    simp only [List.map_cons, PySem.W.keyToksAll, pD, PySem.W.keyToks, List.cons_append, List.nil_append, List.append_assoc, List.cons.injEq, Sum.inl.injEq, true_and] at h
    obtain ⟨h1, h2, h3⟩ := h
    rw [h1, h2, toks_inj r t h3]
theorem le_eq : PySem.W.dataLe false rowD = leRow := by
  funext a b
  show (!PySem.W.dataLt (rowD b) (rowD a)) = _
  rw [dataLt_row]
  rfl
theorem lt_tri {a b : Row} (h1 : ltRow a b = false) (h2 : ltRow b a = false) : a = b := by
  rw [← dataLt_row] at h1 h2
  exact toks_inj a b (PyProof.Rows.lex_total (O := PyProof.Rows.itemOrd) _ _ h1 h2)
theorem le_tr {a b c : Row} (h1 : leRow a b = true) (h2 : leRow b c = true) : leRow a c = true := by
  unfold leRow at *
  rw [Bool.not_eq_true'] at *
  cases e : ltRow c a with
  | false => rfl
  | true =>
    rw [← dataLt_row] at h1 h2 e
    rcases PyProof.Rows.lex_negTrans (O := PyProof.Rows.itemOrd) _ (PySem.W.keyToks (rowD b)) _ e with z | z
    · rw [show PySem.W.dataLt (rowD c) (rowD b) = true from z] at h2; cases h2
    · rw [show PySem.W.dataLt (rowD b) (rowD a) = true from z] at h1; cases h1
theorem le_tot (a b : Row) : leRow a b = true ∨ leRow b a = true := by
  unfold leRow
  cases e : ltRow b a with
  | false => exact .inl rfl
  | true =>
    refine .inr ?_
    cases e2 : ltRow a b with
    | false => rfl
    | true =>
      rw [← dataLt_row] at e e2
      have := PyProof.Rows.lex_trans (O := PyProof.Rows.itemOrd) _ _ _ (show PyProof.Rows.lexLt _ _ _ = true from e) (show PyProof.Rows.lexLt _ _ _ = true from e2)
      rw [PyProof.Rows.lex_irrefl] at this
      cases this
theorem perm_insR {k : Row} : ∀ {l : List Row}, (insR k l).Perm (k :: l)
  | [] => .refl _
  | x :: r => by
    unfold insR
    split
    · exact .refl _
    · exact ((perm_insR (l := r)).cons x).trans (List.Perm.swap k x r)
theorem perm_sortR : ∀ {l : List Row}, (sortR l).Perm l
  | [] => .refl _
  | x :: r => by
    unfold sortR
    exact perm_insR.trans (perm_sortR.cons x)
theorem le_insR {k : Row} : ∀ {l : List Row}, l.Pairwise (fun a b => leRow a b = true) → (insR k l).Pairwise (fun a b => leRow a b = true)
  | [], _ => by simp [insR]
  | x :: r, h => by
    have h' := List.pairwise_cons.mp h
    unfold insR
    split
    · rename_i hk
      refine List.pairwise_cons.mpr ⟨fun y hy => ?_, h⟩
      rcases List.mem_cons.mp hy with z | z
      · rw [z]; exact hk
      · exact le_tr hk (h'.1 y z)
    · rename_i hk
      refine List.pairwise_cons.mpr ⟨fun y hy => ?_, le_insR h'.2⟩
      rcases List.mem_cons.mp (perm_insR.mem_iff.mp hy) with z | z
      · rw [z]
        rcases le_tot k x with q | q
        · exact absurd q hk
        · exact q
      · exact h'.1 y z
theorem le_sortR : ∀ {l : List Row}, (sortR l).Pairwise (fun a b => leRow a b = true)
  | [] => .nil
  | x :: r => le_insR le_sortR
theorem rows_uniq {l m : List Row} (h : l.Perm m) (a : l.Pairwise (fun a b => leRow a b = true)) (b : m.Pairwise (fun a b => leRow a b = true)) : l = m := List.Perm.eq_of_pairwise (fun x y _ _ h1 h2 => by
  unfold leRow at h1 h2
  rw [Bool.not_eq_true'] at h1 h2
  exact lt_tri h2 h1) a b h
theorem merge_eq (rs : List Row) : rs.mergeSort (PySem.W.dataLe false rowD) = sortR rs := by
  rw [le_eq]
  refine rows_uniq ((List.mergeSort_perm _ _).trans perm_sortR.symm) ?_ le_sortR
  refine List.pairwise_mergeSort (le := leRow) (fun a b c h1 h2 => le_tr h1 h2) (fun a b => ?_) rs
  rcases le_tot a b with z | z <;> simp [z]
def toRow : PD → Option Row
  | .list xs => toPairs xs
  | _ => none
def toRows : List PD → Option (List Row)
  | [] => some []
  | x :: r => match toRow x, toRows r with
    | some a, some b => some (a :: b)
    | _, _ => none
theorem toRow_eq {d : PD} {r : Row} (h : toRow d = some r) : d = rowD r := by
  cases d with
  | list xs => unfold rowD; rw [toPairs_eq h]
  | _ => cases h
theorem toRows_eq : ∀ {xs : List PD} {rs : List Row}, toRows xs = some rs → xs = rs.map rowD
  | [], rs, h => by cases h; rfl
  | x :: r, rs, h => by
    unfold toRows at h
    split at h
    · rename_i a b h1 h2
      cases h
      rw [toRow_eq h1, toRows_eq h2]
      rfl
    · cases h
theorem toRows_map : ∀ rs : List Row, toRows (rs.map rowD) = some rs
  | [] => rfl
  | r :: rs => by
    show (match toRow (rowD r), toRows (rs.map rowD) with | some a, some b => some (a :: b) | _, _ => none) = _
    rw [toRows_map rs, show toRow (rowD r) = some r from toPairs_map r]
def pSortedL : List PD → R PD
  | [.list xs] => match toRows xs with
    | some rs => .ok (.list ((sortR rs).map rowD))
    | none => .bad
  | _ => .bad
theorem alike_pairs : ∀ a b : Row, PySem.W.alikeAll (a.map pD) (b.map pD) = true
  | [], _ => by simp [PySem.W.alikeAll]
  | _ :: _, [] => by simp [PySem.W.alikeAll]
  | p :: r, q :: t => by
    show (PySem.W.alike (pD p) (pD q) && PySem.W.alikeAll (r.map pD) (t.map pD)) = true
    rw [alike_pairs r t]
    simp [pD, PySem.W.alike, PySem.W.alikeAll]
theorem depth_pairs : ∀ a : Row, PyData.depthAll (a.map pD) ≤ 1
  | [] => by simp [PyData.depthAll]
  | p :: r => by
    have := depth_pairs r
    show max (PyData.depth (pD p)) (PyData.depthAll (r.map pD)) ≤ 1
    refine Nat.max_le.mpr ⟨?_, this⟩
    simp [pD, PyData.depth, PyData.depthAll]
section
variable {X : Cx}
theorem each_of {G : Hp} {s : Shared} : ∀ {xs : List V} {its : List Value} {rs : List Row}, Vals xs its → DgAll G xs (rs.map rowD) → PySem.W.EachIs (fun v b => ∃ x, RelV x v ∧ Dg G x (rowD b)) its rs
  | _, _, [], .nil, _ => .nil
  | _, _, _ :: _, .nil, h => by cases h
  | _, _, [], .cons _ _, h => by cases h
  | _, _, r :: rs, .cons a b, h => by
    cases h with
    | cons h1 h2 => exact .cons ⟨_, a, h1⟩ (each_of (s := s) b h2)
theorem of_each {G : Hp} : ∀ {out : List Value} {rs : List Row}, PySem.W.EachIs (fun v b => ∃ x, RelV x v ∧ Dg G x (rowD b)) out rs → ∃ ys, Vals ys out ∧ DgAll G ys (rs.map rowD)
  | _, _, .nil => ⟨[], .nil, .nil⟩
  | _, _, .cons ⟨x, h1, h2⟩ t => by
    obtain ⟨ys, h3, h4⟩ := of_each t
    exact ⟨x :: ys, .cons h1 h3, .cons h2 h4⟩
theorem dc_sortedL (hu : X.A.units + 64 < cLine) : CallR X (.builtin "sorted") (rdC pSortedL) := by
  intro pins s σ H vs us Q I r h
  obtain ⟨G, ds, sb, rs, p⟩ := h
  unfold pSortedL at p
  split at p
  · rename_i xs
    obtain ⟨v, rfl, rv⟩ := rs.one
    obtain ⟨a, ws, rfl, ga, da⟩ := rv.of_lst
    split at p
    · rename_i rows er
      have exs := toRows_eq er
      subst exs
      obtain ⟨its, rvs, hl, hz⟩ := I.list (SqL.of (K := X.K) (sb _ _ ga))
      rw [Vals.ref1 r]
      have e := each_of (s := s) rvs da
      obtain ⟨as, hrd⟩ := Dp.readsAll I _ _ its (DgAll.dp sb da) rvs
      have hlen : its.length = rows.length := by rw [← rvs.length, da.len, List.length_map]
      refine PySem.W.sorted_data hl.isList e (PySem.W.readsAll_each rowD hrd) (PySem.W.AllAlike.of fun a b => ?_) (PySem.W.Sortable.others fun b => ⟨fun z => (by cases z), fun xs z => (by cases z)⟩) ?_ (fun b hb => ?_) fun out hout eo => ?_
      · exact alike_pairs a b
      · rw [← hlen, ← rvs.length]; exact hz
      · have : PyData.depth (rowD b) ≤ 2 := Nat.succ_le_succ (depth_pairs b)
        omega
      · rw [merge_eq] at eo
        obtain ⟨ys, h3, h4⟩ := of_each eo
        obtain ⟨n, hn⟩ := sortedAll_at s.heap its (List.toArray out)
        refine ⟨.ref _, upd H (s.heap.objs.size + 1) (.lst ys), I.laid (t' := s.toks) (fun b o eb => sortedAll_old eb) (Nat.le_succ _) ⟨?_, out, n, h3, hn⟩, rfl, p.lst sb h4 (I.hok.fresh (Nat.le_succ _))⟩
        rw [h3.length, hout, ← hlen, ← rvs.length]
        exact hz
    · exact p.elim
  · exact p.elim
end
end DL

/-! DLY: a def that calls itself with a dict; its first call with a new dict -/
namespace DL
open PySem PySem.Spec PyProof.Rows L2
theorem de_oWk {X : Cx} {O : List Nat} {W1 : Wd} {p : Addr} {G0 H0 : Hp} {E : XK} {cls : Nat → Addr} {k : Nat} {x : Str} {n : Nat} {m : List PD → Kt → R (PD × Kt)} {e : Expr} {es : List Expr} {fa : Mx ⟨W1.and (Wk cls p), G0, H0, E⟩ (List PD)} {p' pos : Pos}
    (M : FnO X.prog X.w X.K X.mg X.base cls (Wk cls) k x n (fun _ => m)) (hr : Room k X.A) (ha : DA X ⟨W1.and (Wk cls p), G0, H0, E⟩ O (e :: es) fa) (hg : Gl X x := by rfl)
    (hdb : (x == ("__debug__" : Str)) = false := by decide) (he : starEach (e :: es) X.env = (false, eval e X.env) :: starEach es X.env := by rfl) (hpl : (backTo pos (starEach es X.env)).any (·.1) = false := by rfl) : DE X ⟨W1.and (Wk cls p), G0, H0, E⟩ O (.Call (.Name x p') (e :: es) [] pos) (cCallW (t1 := W1.d) (t2 := Kt) n m fa) :=
  de_oW (F := Wk cls) (i := p) M (fun _ => rfl) hr ha hg hdb he hpl
/-- nothing is promised -/
theorem fn_none {ι : Type} {Fm : ι → Wd} {P : Program} {w : World} {K : PySem.W.Frag} {mg : Str → Option Value} {base : Heap} {x qual : Str} {params : Arguments} {body : List Stmt} {scope : Scope} {f : Addr} {fd : FuncData} {cls : Nat → Addr} {N ps : List Str} {n : Nat} (F : FunD K x qual params body scope [] [] f fd) (S : FnScope N ps scope) (hn : ps.length = n) :
    FnOk P w K mg base (L2.CX P w) 1 f fd ps (spW cls Fm n fun _ _ _ => .bad) := by
  refine F.ok S (fun vs H Q E h => ?_) (fun cdv A outer s H vs Q E hr h => ?_)
  · obtain ⟨i, G, ds, s, _, r, hl, _⟩ := h
    rw [r.len, hl, hn]
  · obtain ⟨i, G, ds, s, _, r, hl, p⟩ := h
    exact p.elim
/-- return f(e, {}) -/
def sRetN {d : Type} (m : List PD → Kt → R (PD × Kt)) (fe : Env → d → R (PD × d)) : Env → d → R (Fl × d) := fun ρ s => bnd (fe ρ s) fun x s1 => if isD x = true then (match m [x, tokD 1] [] with
  | .ok (v, _) => if isD v = true then .ok (.rt v, s1) else .bad
  | _ => .bad) else .bad
theorem ds_retN {X : Cx} {O O' : List Nat} {W : Wd} {G0 H0 : Hp} {E : XK} {k : Nat} {x : Str} {m : List PD → Kt → R (PD × Kt)} {e : Expr} {fe : Mx ⟨W, G0, H0, E⟩ PD} {p' dpos cpos pos : Pos}
    (M : FnO X.prog X.w X.K X.mg X.base W.cls (Wk W.cls) k x 2 (fun _ => m)) (hr : Room k X.A) (he : DE X ⟨W, G0, H0, E⟩ O e fe) (hg : Gl X x := by rfl) (hdb : (x == ("__debug__" : Str)) = false := by decide)
    (hs : starEach [e, .Dict [] [] dpos] X.env = (false, eval e X.env) :: starEach [.Dict [] [] dpos] X.env := by rfl) (hs2 : starEach [.Dict [] [] dpos] X.env = (false, eval (.Dict [] [] dpos) X.env) :: starEach [] X.env := by rfl) (hpl : (backTo cpos (starEach [.Dict [] [] dpos] X.env)).any (·.1) = false := by rfl) :
    DS X ⟨W, G0, H0, E⟩ O O' (.Return (some (.Call (.Name x p') [e, .Dict [] [] dpos] [] cpos)) pos) (sRetN m fe) := by
  obtain ⟨f, fd, ps, hF, hm, hk, hb⟩ := M.ex
  refine PS.imp (ps_ret (pe_call hF hr hg hm hk hb .nil passL (pa_cons he (pa_cons pe_dnewT pa_nil hs2) hs) hdb hs hpl)) fun D σ H h => ?_
  obtain ⟨G, ρ, s, a, q⟩ := h
  refine rdE.thenS a q fun v G1 H1 d s1 a1 g1 rv p1 => ?_
  intro p hp
  by_cases hd : isD d = true
  · rw [if_pos hd] at p1
    have gp : G1 p = none := by
      cases e : G1 p with
      | none => rfl
      | some o => rw [a1.sit.sub _ _ e] at hp; cases hp
    have hk1 : ∀ c o, H1 c = some o → (upd H1 p (.dT [])) c = some o := fun c o e => by rw [upd_ne (ne_of_none e hp)]; exact e
    have S : Sit (Wk W.cls p) G1 (upd H1 p (.dT [])) [] := ⟨fun c o e => hk1 c o (a1.sit.sub c o e), fun c f => by rw [show c = p from f]; exact gp, (fun c f => by rw [show c = p from f, upd_same]; exact fun z => by cases z), ⟨[], upd_same, .nil⟩⟩
    refine ⟨p, G1, [d, tokD 1], [], S, .cons (.inl (rv.dg (isD_tok hd))) (.cons (.inr ⟨1, rfl, rfl⟩) .nil), rfl, ?_⟩
    show PostW W.cls (Wk W.cls p) G1 (upd H1 p (.dT [])) (m [d, tokD 1] []) _ _
    cases em : m [d, tokD 1] [] with
    | bad => rw [em] at p1; exact p1.elim
    | exc c => rw [em] at p1; exact p1.elim
    | ok y =>
      obtain ⟨r, t'⟩ := y
      rw [em] at p1
      dsimp only at p1
      by_cases hr' : isD r = true
      · rw [if_pos hr'] at p1
        intro v' G' H' g S' rv'
        have g2 : Gr (fun _ => False) G1 H1 G' H' := ⟨g.g, fun c o _ e => g.h c o (fun z => by rw [show c = p from z, hp] at e; cases e) (hk1 c o e), fun c e => by
          have h1 := g.dom c e
          by_cases z : c = p
          · rw [z]; exact hp
          · rw [upd_ne z] at h1; exact h1, fun c o e => by
          rcases g.new c o e with z | z
          · exact .inl z
          · refine .inr ?_
            by_cases z2 : c = p
            · rw [z2]; exact hp
            · rw [upd_ne z2] at z; exact z⟩
        exact p1 v' G' H' (a1.gr.trans (g2.weak fun _ z => z.elim)) (a1.sit.pure g2 S'.sub) (.inl (rv'.dg (isD_tok hr')))
      · rw [if_neg hr'] at p1; exact p1.elim
  · rw [if_neg hd] at p1; exact p1.elim
end DL

/-! DLZ: {k: v} with one tuple as key; sums over its keys -/
namespace DL
open PySem PySem.Spec PyProof.Rows L2
def tDispT (tk tv : TE) : TE := fun σ H Q => ∀ p, H p = none → tk σ (upd H p (.dT [])) fun y H1 => tv σ H1 fun v H2 => ∃ b k, y = .ref b ∧ H2 b = some (.tup (k.map kV)) ∧ H2 p = some (.dT []) ∧ Q (.ref p) (upd H2 p (.dT (putK [] k v)))
theorem pe_dispT {X : Cx} {pos : Pos} {k v : Expr} {tk tv : TE} (hu : X.A.units + 1 < cLine) (hk : PE X k tk) (hv : PE X v tv) : PE X (.Dict [some k] [v] pos) (tDispT tk tv) := by
  refine ⟨fun pins s σ H Q I q => ?_⟩
  have hn := I.hok.fresh (Nat.le_refl s.heap.objs.size)
  have I1 := I.laid (a := s.heap.objs.size) (o := .dT []) (h' := s.heap.push { cls := .type "dict", data := .dict #[] }) (t' := s.toks) (fun _ _ q => Heap.get?_push_of_some _ q) (Nat.le_refl _) (dt_empty s.heap I.big)
  rw [arm_eval_Dict, zip_pairTrees [some k] [v] X.env pos rfl rfl, dictDisplay_pairs (pairTrees [some k] [v] X.env pos) (fun z => by have := pairTrees_length [some k] [v] X.env pos rfl rfl; rw [z] at this; cases this) (by rw [pairTrees_length [some k] [v] X.env pos rfl rfl]; show 1 < 17; decide)]
  refine wpAny_bind (wpAny_standAt (wpAny_bind ?_))
  unfold subDict
  refine wpAny_bind (wpAny_alloc ?_)
  refine wpAny_bind (wpAny_holding ?_)
  rw [if_pos (by rw [pairTrees_length [some k] [v] X.env pos rfl rfl]; show 1 ≤ 15; decide)]
  refine wpAny_bind (pairTrees_cons_walk (thn (hk.run pins _ σ _ _ I1 (q _ hn)) fun u s1 ⟨x, H1, I2, rx, q1⟩ => thn (hv.run pins s1 σ H1 _ I2 q1) fun w2 s2 ⟨y, H2, I3, ry, b, kk, ex, eb, ed, q2⟩ => pairTrees_nil_walk ?_))
  subst ex
  cases (show u = Value.ref b from rx)
  obtain ⟨z, hd, xs, rel, dd⟩ := dt_of I3.hok ed
  have hz : xs.length ≤ sizeLine := by rw [← Paired.length rel]; exact z
  refine wpAny_holding ?_
  rw [List.forIn_cons]
  refine wpAny_bind (wpAny_bind ?_)
  show wpAny (model X.prog X.w) X.A (do dictSet s.heap.objs.size (.ref b) w2; pure (ForInStep.yield PUnit.unit)) _ _ _
  refine wpAny_bind (wpAny_dictSet_heap (hsz := hz) (show (tupleKind (mixKind X.prog X.w)).room X.A from Nat.lt_of_succ_lt hu) (key_of I3.hok eb) dd fun h' dd' hs => wpAny_pure ?_)
  show wpAny (model X.prog X.w) X.A (forIn ([] : List (Value × Value)) PUnit.unit _) _ _ _
  rw [List.forIn_nil]
  refine wpAny_pure (wpAny_pure (wpAny_pure (wpAny_pure ⟨.ref _, _, ?_, rfl, q2⟩)))
  have hl : (putK ([] : List (List Key × V)) kk y).length ≤ sizeLine := by have := length_putK ([] : List (List Key × V)) kk y; have := sizeLine_eq; simp at *; omega
  obtain ⟨q', es, ep, hq, h2, h3, h4, _, h5⟩ := dd'
  refine d_write I3 (by rw [ed]; exact True.intro) hs ⟨q', hq⟩ ⟨hl, hd, _, (rel.put kk eb ry).keeps fun c ys ec => ?_, q', es, ep, hq, h2, h3, h4, h5⟩
  rw [upd_ne (ne_of ec ed (fun z => nomatch z))]
  exact ec
/-- x = {(a, b): n} -/
def sNewD1 {t1 : Type} (i : Nat) (a b n : Int) (fr : Env → t1 × Kt → R (Fl × (t1 × Kt))) : Env → t1 → R (Fl × t1) := fun ρ s => if noT ρ = true then outNew (fr (ρ.set i (some (tokD 1))) (s, [([a, b], .int n)])) else .bad
section
variable {X : Cx} {O O' : List Nat} {W : Wd} {G0 H0 : Hp} {E : XK}
theorem dss_nD1 (i : Nat) {x : Str} {a b n : Int} {j1 j2 j3 k : Nat} {p1 p2 p3 p4 : Pos} {rest : List Stmt} {fr : Env → W.d × Kt → R (Fl × (W.d × Kt))} {dpos pos pos' : Pos} (hN : X.N.Nodup) (hu : X.A.units + 1 < cLine) (hrest : ∀ p, DSs X ⟨W.and (Wk W.cls p), G0, H0, E⟩ O O' rest fr)
    (hi : X.N[i]? = some x := by rfl) (hx : Loc X.env.scope x := by first | exact Or.inl rfl | exact Or.inr rfl) (hO : i ∉ O := by decide)
    (hs : swapsWith (.Dict [some (.Tuple [.Constant (.int a) j1 p1, .Constant (.int b) j2 p2] k p3)] [.Constant (.int n) j3 p4] dpos) (some (.Name x pos')) pos.line X.env = pure false := by rfl) (hf : X.fn x = true ∨ X.env.scope.names.lookup x = some .local := by first | exact .inl rfl | exact .inr rfl) :
    DSs X ⟨W, G0, H0, E⟩ O O' (.Assign [.Name x pos'] (.Dict [some (.Tuple [.Constant (.int a) j1 p1, .Constant (.int b) j2 p2] k p3)] [.Constant (.int n) j3 p4] dpos) pos :: rest) (sNewD1 i a b n fr) := by
  have hb' : PSs X rest (fun D σ H' => ∃ p, rdS ⟨W.and (Wk W.cls p), G0, H0, E⟩ O O' fr D σ H') := ⟨fun pins s' σ H' D I h => by
    obtain ⟨j, h⟩ := h
    exact (hrest j).run pins s' σ H' D I h⟩
  refine PSs.imp (pss_cons (ps_set hN hi hx (pe_dispT hu (pe_tup (pa_cons pe_int (pa_cons pe_int pa_nil))) pe_int) hs hf) hb') fun D σ H h => ?_
  obtain ⟨G, ρ, s, at0, q⟩ := h
  intro p hp
  refine ⟨(by show 2 ≤ sizeLine; decide), fun T hT => ?_⟩
  have Tp : T ≠ p := fun z => by rw [z, upd_same] at hT; cases hT
  have hT0 : H T = none := by rw [upd_ne Tp] at hT; exact hT
  refine ⟨T, kK [a, b], rfl, by rw [upd_same]; rfl, by rw [upd_ne (Ne.symm Tp), upd_same], ?_⟩
  unfold sNewD1 at q
  by_cases nt : noT ρ = true
  · rw [if_pos nt] at q
    have a2 : At ⟨W.and (Wk W.cls p), G0, H0, E⟩ O σ (upd (upd (upd H p (.dT [])) T (.tup [.int a, .int b])) p (.dT (putK [] (kK [a, b]) (.int n)))) G ρ (s, [([a, b], .int n)]) := At.enter (W2 := Wk W.cls p) (t := [([a, b], .int n)]) at0 (fun x z => by rw [show x = p from z]; exact hp) (fun x z => by rw [show x = p from z, upd_same]; exact fun q => by cases q) (fun x o e => by rw [upd_ne (ne_of_none e hp), upd_ne (ne_of_none e hT0), upd_ne (ne_of_none e hp)]; exact e) (fun x e => by
      by_cases z : x = p
      · rw [z]; exact hp
      · rw [upd_ne z] at e
        by_cases z2 : x = T
        · rw [z2]; exact hT0
        · rw [upd_ne z2, upd_ne z] at e; exact e) ⟨_, upd_same, DgKV.put (s := []) .nil (.int n)⟩ nt
    exact ⟨p, G, ρ.set i (some (tokD 1)), (s, [([a, b], .int n)]), ⟨a2.sit, a2.gr, a2.rs.set (.inr ⟨1, rfl, rfl⟩) hO⟩, PostS.leave (W2 := Wk W.cls p) (E := E) (fun x z => by rw [show x = p from z]; exact at0.gr.dom p hp) q⟩
  · rw [if_neg nt] at q; exact q.elim
end
section
variable {X : Cx} {O O' : List Nat} {W1 : Wd} {cls : Nat → Addr} {p : Addr} {G0 H0 : Hp} {E : XK}
/-- sum([d[k] for k in d if k[0] <= x and k[1] <= y]) -/
theorem de_sumW1 (iw ix iy io : Nat) {e : Expr} (hIo : io < X.N.length)
    (h : PE X e (tLockE (tCB (rSum X.K) (tCons (tLc (iKeys (tVar iw)) (gName io) (tAnd (tTest (tOp (rI0 fun i j => .bl (decide (i ≤ j))) (tOp (rIxT X.K) (tVar io) (tC (.int 0))) (tVar ix))) (tTest (tOp (rI0 fun i j => .bl (decide (i ≤ j))) (tOp (rIxT X.K) (tVar io) (tC (.int 1))) (tVar iy)))) (tDGet (tVar iw) (tVar io)) [io]) tNil))))
    (hwO : iw ∉ O := by decide) (hxO : ix ∉ O := by decide) (hyO : iy ∉ O := by decide) (n2 : iw ∉ [io] := by decide) (n3 : ix ∉ [io] := by decide) (n4 : iy ∉ [io] := by decide) :
    DE X ⟨W1.and (Wk cls p), G0, H0, E⟩ O e (cSumW (t1 := W1.d) iw ix iy) := by
  refine ⟨fun pins sh σ H Q I hq => h.run pins sh σ H Q I ?_⟩
  have hlen := I.len
  obtain ⟨G, ρ, s, a, q⟩ := hq
  unfold cSumW at q
  split at q
  · rename_i w x y e1 e2 e3
    split at q
    · rename_i hc
      split at q
      · rename_i ns hv
        obtain ⟨vw, f1, r1⟩ := a.rs.plain iw _ e1 hwO
        obtain ⟨vx, f2, r2⟩ := a.rs.plain ix _ e2 hxO
        obtain ⟨vy, f3, r3⟩ := a.rs.plain iy _ e3 hyO
        have hvw := Rp.isT1 r1 hc.1
        have hvx := (r2.dg (isD_tok rfl)).of_int
        have hvy := (r3.dg (isD_tok rfl)).of_int
        subst hvw hvx hvy
        obtain ⟨rp1, ⟨kvs, hp, dg⟩, dj⟩ := a.sit.rep
        refine sum_core (x := x) (y := y) f1 hp dg hv hc.2 ?_ fun H' he => ?_
        · intro u v q od H' P1 P2 hq hfz c1 c2
          have ga : ∀ {i : Nat} {z : V}, i ∉ [io] → σ[i]? = some (some z) → ((wipe σ [io]).set io (some (.ref q)))[i]? = some (some z) := fun {i z} ni e => by
            have h1 : io ≠ i := fun z => ni (by rw [z]; simp)
            rw [List.getElem?_set_ne h1, wipe_get ni]; exact e
          have gio : ((wipe σ [io]).set io (some (V.ref q)))[io]? = some (some (.ref q)) := by
            rw [List.getElem?_set_self (by rw [wipe_len, hlen]; exact hIo)]
          refine ⟨?_, ?_⟩
          · rw [wipe_set_in (by simp)]
            apply List.ext_getElem?
            intro j
            show ((wipe σ [io]).set io none)[j]? = _
            by_cases hj : io = j
            · subst hj
              rw [List.getElem?_set_self (by rw [wipe_len, hlen]; exact hIo)]
              show some none = ((σ.set io none))[io]?
              rw [List.getElem?_set_self (by rw [hlen]; exact hIo)]
            · rw [List.getElem?_set_ne hj]
          · refine ⟨_, gio, q, _, 0, .int u, rfl, rfl, SqT.of hq, rfl, _, ga n3 f2, u, x, rfl, rfl, _, rfl, ?_⟩
            by_cases hu : u ≤ x
            · rw [decide_eq_true hu]
              show (if true = true then _ else _)
              rw [if_pos rfl]
              refine ⟨_, gio, q, _, 1, .int v, rfl, rfl, SqT.of hq, rfl, _, ga n4 f3, v, y, rfl, rfl, _, rfl, ?_⟩
              by_cases hvy : v ≤ y
              · rw [decide_eq_true hvy]
                show (if true = true then _ else _)
                rw [if_pos rfl]
                obtain ⟨w, ew, k⟩ := c2 ⟨hu, hvy⟩
                exact ⟨_, ga n2 f1, _, gio, p, w, rfl, .inr ⟨kvs, kK [u, v], q, .inr ⟨od, hfz⟩, rfl, hq, ew.symm⟩, k _ ⟨fun c o e => e, fun c e => e⟩⟩
              · rw [decide_eq_false hvy]
                show (if false = true then _ else _)
                rw [if_neg Bool.false_ne_true]
                exact c1 fun z => hvy z.2
            · rw [decide_eq_false hu]
              show (if false = true then _ else (if false = true then _ else _))
              rw [if_neg Bool.false_ne_true, if_neg Bool.false_ne_true]
              exact c1 fun z => hu z.1
        · have g2 : Gr (fun _ => False) G H G H' := ⟨fun _ _ e => e, fun c o _ e => he.1 c o e, he.2, fun _ _ e => .inl e⟩
          exact q _ G H' (g2.weak fun _ z => z.elim) (a.sit.pure g2 fun c o e => he.1 c o (a.sit.sub c o e)) (.inl (.int _))
      · exact q.elim
    · exact q.elim
  · exact q.elim
end
end DL

/-! the mirrors of Watch's methods, printed by gen.py -/
namespace DL
open PySem PySem.Spec PyProof.Rows L2
def b_W_counts (ds : List PD) : Env → Unit × Int → R (Fl × (Unit × Int)) :=
      (sSeq (sSetF 1 (fLst (aCons (cC (.int 0)) (aCons (cC (.int 0)) (aCons (cC (.int 0)) (aCons (cC (.int 0)) aNil))))))
      (sSeq (sFor (iLst (cLnW ds (cVar 0))) (bTup (bCons (bNm 2) (bCons (bNm 3) bNil)))
      (sIf (cTest (cOp pGe (cVar 2) (cThr (cVar 0))))
      (sAugIx 1 (cIf (cTest (cVar 3)) (cC (.int 1)) (cC (.int 0))) 1)
      (sAugIx 1 (cIf (cTest (cVar 3)) (cC (.int 2)) (cC (.int 3))) 1)))
      (sRet (cCall pTuple (aCons (cVar 1) aNil)))))
def m_W_counts : List PD → Wt → R (PD × Wt) := mBodyRd 3 b_W_counts
def b_W_move (ds : List PD) : Env → Unit × Int → R (Fl × (Unit × Int)) :=
      (sSeq (sAsg (bTup (bCons (bNm 2) (bCons (bNm 3) bNil))) (cTup (aCons (cCall pMin (aCons (cVar 1) (aCons (cThr (cVar 0)) aNil))) (aCons (cCall pMax (aCons (cVar 1) (aCons (cThr (cVar 0)) aNil))) aNil))))
      (sSeq (sThr (cVar 1) (cVar 0))
      (sRet (cCall pLen (aCons (cComp (iLst (cLnW ds (cVar 0))) (bTup (bCons (bNm 4) (bCons (bNm 5) bNil))) [4, 5] (cTest (cChain pLe pLt (cVar 2) (cVar 4) (cVar 3))) (cC (.int 1))) aNil)))))
def c_W_move : Env → Unit → R (Fl × Unit) :=
      (sExpr (cCallF 1 m_check_threshold (aCons (cVar 1) aNil)))
def m_W_move : List PD → Wt → R (PD × Wt) := mBodyRd1 4 c_W_move b_W_move
end DL

/-! further mirrors, printed by gen.py -/
namespace DL
open PySem PySem.Spec PyProof.Rows L2
def b_count_curves {d : Type} : Env → d → R (Fl × d) :=
      (sSeq (sExpr (cCallF 2 m_check_numbers (aCons (cVar 0) (aCons (cVar 1) aNil))))
      (sNewD 2
      (sSeq (sFor (iRg1 (aCons (cOp pAdd (cVar 0) (cC (.int 1))) aNil)) (bNm 3)
      (sFor (iRg1 (aCons (cOp pAdd (cVar 1) (cC (.int 1))) aNil)) (bNm 4)
      (sSeq (sSet 5 (cSumW 2 3 4))
      (sDput (cIf (cTest (cOp pNe (cTup (aCons (cVar 3) (aCons (cVar 4) aNil))) (cTup (aCons (cC (.int 0)) (aCons (cC (.int 0)) aNil))))) (cVar 5) (cC (.int 1))) (cVar 2) (cTup (aCons (cVar 3) (aCons (cVar 4) aNil)))))))
      (sRet (cDget (cVar 2) (cTup (aCons (cVar 0) (aCons (cVar 1) aNil))))))))
def m_count_curves : List PD → R PD := mBody 6 b_count_curves
end DL

/-! further mirrors, printed by gen.py -/
namespace DL
open PySem PySem.Spec PyProof.Rows L2
def b_ways_to (rec : List PD → Kt → R (PD × Kt)) : Env → Unit × Kt → R (Fl × (Unit × Kt)) :=
      (sSeq (sIf (cTest (cOp pEq (cVar 0) (cTup (aCons (cC (.int 0)) (aCons (cC (.int 0)) aNil)))))
      (sRet (cLst (aCons (cLst (aCons (cTup (aCons (cC (.int 0)) (aCons (cC (.int 0)) aNil))) aNil)) aNil)))
      sNil)
      (sSeq (sIf (cDnotin (cVar 0) (cVar 1))
      (sSeq (sSetF 2 (fLst aNil))
      (sSeq (sFor (iRg1 (aCons (cOp pAdd (cOp pIx (cVar 0) (cC (.int 0))) (cC (.int 1))) aNil)) (bNm 3)
      (sFor (iRg1 (aCons (cOp pAdd (cOp pIx (cVar 0) (cC (.int 1))) (cC (.int 1))) aNil)) (bNm 4)
      (sIf (cTest (cOp pNe (cTup (aCons (cVar 3) (aCons (cVar 4) aNil))) (cVar 0)))
      (sAugL 2 (cComp (iLst (cCallW 2 rec (aCons (cTup (aCons (cVar 3) (aCons (cVar 4) aNil))) (aCons (cVar 1) aNil)))) (bNm 5) [5] tYesD (cOp pAdd (cVar 5) (cLst (aCons (cVar 0) aNil)))))
      sNil)))
      (sDput (cCall pSortedL (aCons (cVar 2) aNil)) (cVar 1) (cVar 0))))
      sNil)
      (sRet (cDget (cVar 1) (cVar 0)))))
def m_ways_to : Nat → List PD → Kt → R (PD × Kt)
  | 0 => fun _ _ => .bad
  | n + 1 => mBodyO 4 (b_ways_to (m_ways_to n))
def b_all_curves {d : Type} : Env → d → R (Fl × d) :=
      (sSeq (sExpr (cCallF 2 m_check_numbers (aCons (cVar 0) (aCons (cVar 1) aNil))))
      (sSeq (sIf (cOrT (cTest (cOp pGt (cVar 0) (cC (.int 3)))) (cTest (cOp pGt (cVar 1) (cC (.int 3)))))
      (sRaise 1)
      sNil)
      (sRetN (m_ways_to 8) (cTup (aCons (cVar 0) (aCons (cVar 1) aNil))))))
def m_all_curves : List PD → R PD := mBody 0 b_all_curves
def b_curve_at {d : Type} : Env → d → R (Fl × d) :=
      (sSeq (sSet 3 (cCallF 2 m_all_curves (aCons (cVar 0) (aCons (cVar 1) aNil))))
      (sSeq (sIf (cNotT (cTest (cCallF 3 m_is_int (aCons (cVar 2) (aCons (cC (.int 0)) (aCons (cOp pSub (cCall pLen (aCons (cVar 3) aNil)) (cC (.int 1))) aNil))))))
      (sRaise 1)
      sNil)
      (sRet (cOp pIx (cVar 3) (cVar 2)))))
def m_curve_at : List PD → R PD := mBody 1 b_curve_at
end DL

/-! DX1: a def whose result nobody looks at; a def that is handed the watch and may fail -/
namespace DL
open PySem PySem.Spec PyProof.Rows L2
/-! ### a result that nobody looks at -/
def PostSJ (B : Bs) (D : Ends) (r : R (Fl × B.W.d)) : Prop :=
  match r with
  | .ok (.nx ρ', s') => ∀ σ' G' H', At B [] σ' H' G' ρ' s' → D.nx σ' H'
  | .ok (.rt _, s') => ∀ v G' H', Gr B.W.fp B.G0 B.H0 G' H' → Sit B.W G' H' s' → D.rt v H'
  | .ok (.bk _, _) => False
  | .ok (.ct _, _) => False
  | .exc c => ∀ G' H', Gr B.W.fp B.G0 B.H0 G' H' → B.E (.ref (B.W.cls c)) none H'
  | .bad => False
def rdSJ (B : Bs) (f : Ms B) : TS := fun D σ H => ∃ G ρ s, At B [] σ H G ρ s ∧ PostSJ B D (f ρ s)
section
variable {X : Cx} {B : Bs}
theorem psj_of {st : Stmt} {f : Ms B} (h : DS X B [] [] st f) : PS X st (rdSJ B f) := PS.imp h fun D σ H q => by
  obtain ⟨G, ρ, s, a, p⟩ := q
  refine ⟨G, ρ, s, a, ?_⟩
  revert p
  cases f ρ s with
  | bad => exact fun p => p
  | exc c => exact fun p => p
  | ok y =>
    obtain ⟨fl, s'⟩ := y
    cases fl with
    | nx ρ' => exact fun p => p
    | rt d => exact fun p v G' H' g S _ => p v G' H' g S
    | bk ρ' => exact fun p => p.elim
    | ct ρ' => exact fun p => p.elim
theorem psj_nil : PSs X [] (rdSJ B sNil) := PSs.imp pss_nil fun D σ H h => by
  obtain ⟨G, ρ, s, a, p⟩ := h
  exact p σ G H a
theorem psj_cons {st : Stmt} {rest : List Stmt} {f g : Ms B} (h1 : PS X st (rdSJ B f)) (h2 : PSs X rest (rdSJ B g)) : PSs X (st :: rest) (rdSJ B (sSeq f g)) := PSs.imp (pss_cons h1 h2) fun D σ H q => by
  obtain ⟨G, ρ, s, a, p⟩ := q
  refine ⟨G, ρ, s, a, ?_⟩
  unfold sSeq at p
  revert p
  cases f ρ s with
  | bad => exact fun p => p
  | exc c => exact fun p => p
  | ok y =>
    obtain ⟨fl, s'⟩ := y
    cases fl with
    | nx ρ' => exact fun p σ' G' H' a' => ⟨G', ρ', s', a', p⟩
    | rt d => exact fun p => p
    | bk ρ' => exact fun p => p.elim
    | ct ρ' => exact fun p => p.elim
theorem psj_if {c : Expr} {a b : List Stmt} {fc : Mx B Bool} {f g : Ms B} {pos : Pos} (hc : DT X B [] c fc) (ha : PSs X a (rdSJ B f)) (hb : PSs X b (rdSJ B g)) : PS X (.If c a b pos) (rdSJ B (sIf fc f g)) :=
  PS.imp (ps_if hc ha hb) fun D σ H h => by
    obtain ⟨G, ρ, s, a, p⟩ := h
    refine ⟨G, ρ, s, a, ?_⟩
    unfold sIf at p
    revert p
    cases fc ρ s with
    | bad => exact fun p => p.elim
    | exc c => exact fun p G' H' g => p G' H' (a.gr.trans g)
    | ok y =>
      obtain ⟨x, s1⟩ := y
      intro p G1 H1 g1 S1
      cases x with
      | true => exact ⟨G1, ρ, s1, a.step g1 S1, p⟩
      | false => exact ⟨G1, ρ, s1, a.step g1 S1, p⟩
end
/-- return Watch(e) -/
def mkW {t : Type} (d : PD) (s1 : t) : R (Fl × t) := match m_check_threshold [d] with
  | .ok _ => (match d with
    | .int _ => .ok (.rt .none, s1)
    | _ => .bad)
  | .exc c => .exc c
  | .bad => .bad
def sMkW {t : Type} (fe : Env → t → R (PD × t)) : Env → t → R (Fl × t) := fun ρ s => bnd (fe ρ s) fun d s1 => if isD d = true then mkW d s1 else .bad
theorem psj_watch {X : Cx} {W : Wd} {G0 H0 : Hp} {E : XK} {C : Addr} {k : Nat} {e : Expr} {fe : Mx ⟨W, G0, H0, E⟩ PD} {p cpos pos : Pos} (T : WaC X.K X.mg C) (I : FnI X.prog X.w X.K X.mg X.base W.cls C k) (hr : Room (k + 1) X.A) (hx : Passes (L2.CX X.prog X.w) X E) (he : DE X ⟨W, G0, H0, E⟩ [] e fe) (hg : Gl X "Watch" := by rfl)
    (hst : starEach [e] X.env = (false, eval e X.env) :: starEach [] X.env := by rfl) (hpl : (backTo cpos (starEach [] X.env)).any (·.1) = false := by rfl) :
    PS X (.Return (some (.Call (.Name "Watch" p) [e] [] cpos)) pos) (rdSJ ⟨W, G0, H0, E⟩ (sMkW fe)) := by
  obtain ⟨f, fd, F, M, hb⟩ := I.ex
  refine PS.imp (ps_ret (pe_make M F hr hg T.mgC hb .nil hx (pa_cons he pa_nil hst) (by decide) hst hpl)) fun D σ H h => ?_
  obtain ⟨G, ρ, s, a, q⟩ := h
  refine ⟨G, ρ, s, a, ?_⟩
  unfold sMkW at q
  revert q
  cases fe ρ s with
  | bad => exact fun p => p.elim
  | exc c => exact fun p G' H' g => p G' H' (a.gr.trans g)
  | ok y =>
    obtain ⟨d, s1⟩ := y
    intro p1 v G1 H1 g1 S1 rv
    have a1 := a.step g1 S1
    have p1 : PostSJ ⟨W, G0, H0, E⟩ D (if isD d = true then mkW d s1 else .bad) := p1
    by_cases hd : isD d = true
    · rw [if_pos hd] at p1
      intro x dx nx ndx ne
      have hk0 : ∀ y o, H1 y = some o → (upd (upd H1 dx (.own x)) x (.ins C dx [])) y = some o := fun y o e => by
        rw [upd_ne (ne_of_none e nx), upd_ne (ne_of_none e ndx)]; exact e
      refine ⟨x, dx, v, G1, d, rfl, fun y o e => hk0 y o (a1.sit.sub y o e), upd_same, by rw [upd_ne ne, upd_same], rv.dg (isD_tok hd), ?_⟩
      have fin : ∀ H', (∀ y o, H1 y = some o → H' y = some o) → (∀ y, H' y = none → H1 y = none) → Gr (fun _ => False) G1 H1 G1 H' := fun H' h1 h2 => ⟨fun _ _ e => e, fun y o _ e => h1 y o e, h2, fun _ _ e => .inl e⟩
      have back : ∀ y, (upd (upd H1 dx (.own x)) x (.ins C dx [])) y = none → H1 y = none := fun y h1 => by
        have yx : y ≠ x := fun q => by rw [q, upd_same] at h1; cases h1
        have ydx : y ≠ dx := fun q => by rw [q, upd_ne ne, upd_same] at h1; cases h1
        rw [upd_ne yx, upd_ne ydx] at h1; exact h1
      unfold mkW at p1
      revert p1
      cases m_check_threshold [d] with
      | bad => exact fun p1 => p1
      | exc c =>
        intro p1 H' h1 h2
        have g2 := fin H' (fun y o e => h1 y o (hk0 y o e)) fun y z => back y (h2 y z)
        exact p1 G1 H' (a1.gr.trans (g2.weak fun _ z => z.elim))
      | ok q =>
        intro p1
        cases d with
        | int t =>
          refine ⟨t, rfl, fun l H' nl hk hd2 hx2 hl => ⟨rfl, ?_⟩⟩
          have h1 : ∀ y o, H1 y = some o → H' y = some o := fun y o e => hk y o (ne_of_none e nx) (hk0 y o e)
          have g2 := fin H' h1 fun y z => back y (hd2 y z)
          exact p1 _ G1 H' (a1.gr.trans (g2.weak fun _ z => z.elim)) (a1.sit.pure g2 fun y o e => h1 y o (a1.sit.sub y o e))
        | _ => exact p1.elim
    · rw [if_neg hd] at p1; exact p1.elim
def PostJ (cls : Nat → Addr) (G H : Hp) (r : R PD) (Q : VK) (E : XK) : Prop :=
  match r with
  | .ok _ => ∀ v G' H', Gr (fun _ => False) G H G' H' → Sub G' H' → Q v H'
  | .exc c => ∀ G' H', Gr (fun _ => False) G H G' H' → E (.ref (cls c)) none H'
  | .bad => False
def spJ (cls : Nat → Addr) (n : Nat) (m : List PD → R PD) : Sp := fun vs H Q E => ∃ tk G ds, Sub G H ∧ RpAll tk G vs ds ∧ ds.length = n ∧ PostJ cls G H (m ds) Q E
structure FnJ (P : Program) (w : World) (K : PySem.W.Frag) (mg : Str → Option Value) (base : Heap) (cls : Nat → Addr) (k : Nat) (x : Str) (n : Nat) (m : List PD → R PD) : Prop where
  ex : ∃ f fd ps, FnOk P w K mg base (L2.CX P w) k f fd ps (spJ cls n m) ∧ mg x = some (.ref f) ∧ PySem.W.keepIn K (.ref f) = true ∧ Binds K fd ps []
section
variable {P : Program} {w : World} {K : PySem.W.Frag} {mg : Str → Option Value} {base : Heap} {x qual : Str} {params : Arguments} {body : List Stmt} {scope : Scope} {f : Addr} {fd : FuncData} {cls : Nat → Addr}
theorem fn_J {N ps : List Str} {k n : Nat} {fb : Env → Unit → R (Fl × Unit)} (F : FunD K x qual params body scope [] [] f fd) (S : FnScope N ps scope) (hm : mg x = some (.ref f)) (hn : ps.length = n) (hb : Binds K fd ps [])
    (hbody : ∀ (cdv : Value) (A : Around) (outer : List PySem.Env) (s : Shared) (H : Hp) (E : XK) (tk : Nat → V) (G : Hp), Room k (A.deeper (envOfC qual scope s.heap.objs.size f cdv)) →
      PSs (cxOf (L2.CX P w) P w K mg base N qual scope f cdv A outer s H E) body (rdSJ ⟨Wp cls tk, G, H, E⟩ fb)) : FnJ P w K mg base cls (k + 1) x n (mBody (N.length - n) fb) := by
  refine ⟨f, fd, ps, F.ok S (fun vs H Q E h => ?_) (fun cdv A outer s H vs Q E hr h => ?_), hm, F.kp, hb⟩
  · obtain ⟨tk, G, ds, _, r, hl, _⟩ := h
    rw [r.len, hl, hn]
  · obtain ⟨tk, G, ds, sb, r, hl, p⟩ := h
    refine ⟨_, hbody cdv A outer s H E tk G hr, G, startD N ds, (), ⟨⟨sb, fun _ z => z.elim, fun _ z => z.elim, trivial⟩, .refl, r.begin_ N⟩, ?_⟩
    unfold mBody at p
    have e0 : startD N ds = ds.map some ++ List.replicate (N.length - n) none := by unfold startD; rw [hl]
    rw [e0]
    revert p
    generalize fb (ds.map some ++ List.replicate (N.length - n) none) () = r'
    intro p
    cases r' with
    | bad => exact p
    | exc c => exact fun G' H' g => p G' H' g
    | ok y =>
      obtain ⟨fl, u⟩ := y
      cases fl with
      | nx ρ => exact fun σ' G' H' a => p .non G' H' a.gr a.sit.sub
      | rt d => exact fun v G' H' g st => p v G' H' g st.sub
      | bk ρ => exact p.elim
      | ct ρ => exact p.elim
end
theorem ds_exprJ {X : Cx} {B : Bs} {O : List Nat} {k : Nat} {x : Str} {n : Nat} {m : List PD → R PD} {e : Expr} {es : List Expr} {fa : Mx B (List PD)} {p cpos pos : Pos} (F : FnJ X.prog X.w X.K X.mg X.base B.W.cls k x n m) (hr : Room k X.A) (hx : Passes (L2.CX X.prog X.w) X B.E) (ha : DA X B O (e :: es) fa) (hg : Gl X x := by rfl)
    (hdb : (x == ("__debug__" : Str)) = false := by decide) (he : starEach (e :: es) X.env = (false, eval e X.env) :: starEach es X.env := by rfl) (hpl : (backTo cpos (starEach es X.env)).any (·.1) = false := by rfl)
    (hs : swapsWith (.Call (.Name x p) (e :: es) [] cpos) none pos.line X.env = pure false := by rfl) : DS X B O O (.Expr (.Call (.Name x p) (e :: es) [] cpos) pos) (sExpr (cCallF n m fa)) := by
  obtain ⟨f, fd, ps, hF, hm, hk, hb⟩ := F.ex
  refine PS.imp (ps_expr (pe_call hF hr hg hm hk hb .nil hx ha hdb he hpl) hs) fun D σ H h => ?_
  obtain ⟨G, ρ, s, a, q⟩ := h
  refine ⟨G, ρ, s, a, ?_⟩
  unfold sExpr cCallF at q
  revert q
  cases fa ρ s with
  | bad => exact fun q => q.elim
  | exc c => exact fun q G' H' g => q G' H' (a.gr.trans g)
  | ok y =>
    obtain ⟨ds, s1⟩ := y
    intro q vs G1 H1 g1 S1 rv
    have a1 := a.step g1 S1
    have q : PostS B O D (bnd (if ds.length = n then lft (m ds) s1 else .bad) fun _ s1 => .ok (.nx ρ, s1)) := q
    by_cases hl : ds.length = n
    · rw [if_pos hl] at q
      rw [List.append_nil]
      refine ⟨B.W.tk, G1, ds, a1.sit.sub, rv, hl, ?_⟩
      revert q
      cases m ds with
      | bad => exact fun q => q
      | exc c => exact fun q G' H' g => q G' H' (a1.gr.trans (g.weak fun _ z => z.elim))
      | ok d => exact fun q v G' H' g sb => q σ G' H' (a1.step (g.weak fun _ z => z.elim) (a1.sit.pure g sb))
    · rw [if_neg hl] at q; exact q.elim
/-! ### the watch, and errors that leave its state known -/
def PostEX (B : Bs) (E' : XK) (G H : Hp) (r : RX (PD × B.W.d) B.W.d) (Q : VK) : Prop :=
  match r with
  | .ok (d, s') => ∀ v G' H', Gr B.W.fp G H G' H' → Sit B.W G' H' s' → Rp B.W.tk G' v d → Q v H'
  | .exc c s' => ∀ G' H', Gr B.W.fp G H G' H' → Sit B.W G' H' s' → E' (.ref (B.W.cls c)) none H'
  | .bad => False
theorem PostEX.step {B : Bs} {E' : XK} {G H G1 H1 : Hp} {r : RX (PD × B.W.d) B.W.d} {Q : VK} (g : Gr B.W.fp G H G1 H1) (p : PostEX B E' G H r Q) : PostEX B E' G1 H1 r Q := by
  cases r with
  | bad => exact p
  | exc c s => exact fun G' H' g' S => p G' H' (g.trans g') S
  | ok y => exact fun v G' H' g' S rv => p v G' H' (g.trans g') S rv
def rdEX (B : Bs) (E' : XK) (f : Env → B.W.d → RX (PD × B.W.d) B.W.d) : TE := fun σ H Q => ∃ G ρ s, At B [] σ H G ρ s ∧ PostEX B E' G H (f ρ s) Q
def outRX {t1 t2 : Type} (s1 : t1 × t2) (r : R (PD × t2)) : RX (PD × (t1 × t2)) (t1 × t2) := match r with
  | .ok (d, t') => if isD d then .ok (d, (s1.1, t')) else .bad
  | .exc c => .exc c s1
  | .bad => .bad
theorem PostW.ofEX {W1 W2 : Wd} {G0 H0 G H : Hp} {E E' : XK} {s : (W1.and W2).d} {r : R (PD × W2.d)} {Q : VK} (S : Sit (W1.and W2) G H s) (p : PostEX ⟨W1.and W2, G0, H0, E⟩ E' G H (outRX s r) Q) : PostW W1.cls W2 G H r Q E' := by
  cases r with
  | bad => exact p.elim
  | exc c =>
    intro G' H' g
    have g2 : Gr (fun _ => False) G H G H' := ⟨fun _ _ e => e, g.h, g.dom, fun _ _ e => .inl e⟩
    exact p G H' (g2.weak fun _ z => z.elim) (S.pure g2 fun x o e => g.h x o (fun z => z) (S.sub x o e))
  | ok y =>
    obtain ⟨d, t'⟩ := y
    unfold outRX at p
    dsimp only at p
    by_cases hd : isD d = true
    · rw [if_pos hd] at p
      exact fun v G' H' g S2 rv => p v G' H' (g.weak fun _ z => .inr z) (S.joinR g S2) (.inl (rv.dg (isD_tok hd)))
    · rw [if_neg hd] at p; exact p.elim
def xMeth {t1 t2 : Type} (n : Nat) (m : List PD → t2 → R (PD × t2)) (o : Env → t1 × t2 → R (PD × (t1 × t2))) (a : Env → t1 × t2 → R (List PD × (t1 × t2))) : Env → t1 × t2 → RX (PD × (t1 × t2)) (t1 × t2) := fun ρ s => match o ρ s with
  | .ok (x, s0) => if isT 1 x = true then (match a ρ s0 with
    | .ok (ds, s1) => if ds.length + 1 = n ∧ allD ds = true then outRX s1 (m (tokD 1 :: ds) s1.2) else .bad
    | _ => .bad) else .bad
  | _ => .bad
def xMeth0 {t1 t2 : Type} (m : List PD → t2 → R (PD × t2)) (o : Env → t1 × t2 → R (PD × (t1 × t2))) : Env → t1 × t2 → RX (PD × (t1 × t2)) (t1 × t2) := fun ρ s => match o ρ s with
  | .ok (x, s1) => if isT 1 x = true then outRX s1 (m [tokD 1] s1.2) else .bad
  | _ => .bad
def xIfE {d : Type} (t : Env → d → R (Bool × d)) (f g : Env → d → RX (PD × d) d) : Env → d → RX (PD × d) d := fun ρ s => match t ρ s with
  | .ok (b, s1) => if b = true then f ρ s1 else g ρ s1
  | _ => .bad
def rtX {d : Type} (r : RX (PD × d) d) : RX (Fl × d) d := match r with
  | .ok (v, s') => .ok (.rt v, s')
  | .exc c s' => .exc c s'
  | .bad => .bad
def xRet {d : Type} (f : Env → d → RX (PD × d) d) : Env → d → RX (Fl × d) d := fun ρ s => rtX (f ρ s)
def xSkip {d : Type} (t : Env → d → R (Bool × d)) (g : Env → d → RX (Fl × d) d) : Env → d → RX (Fl × d) d := fun ρ s => match t ρ s with
  | .ok (false, s1) => g ρ s1
  | _ => .bad
def xThen {d : Type} (t : Env → d → R (Bool × d)) (f : Env → d → RX (PD × d) d) (g : Env → d → RX (Fl × d) d) : Env → d → RX (Fl × d) d := fun ρ s => match t ρ s with
  | .ok (b, s1) => if b = true then xRet f ρ s1 else g ρ s1
  | _ => .bad
section
variable {X : Cx} {W1 : Wd} {C : Addr} {i : Addr × Addr × Addr} {G0 H0 : Hp} {E' : XK}
theorem pex_mW {k : Nat} {mn : Str} {n : Nat} {m : List PD → Wt → R (PD × Wt)} {o e : Expr} {es : List Expr} {fo : Mx ⟨W1.and (Ww W1.cls C i), G0, H0, E0⟩ PD} {fa : Mx ⟨W1.and (Ww W1.cls C i), G0, H0, E0⟩ (List PD)} {apos cpos : Pos} {pl : Sem Bool}
    (M : FnM X.prog X.w X.K X.mg X.base W1.cls C k mn n m) (T : WaC X.K X.mg C) (hr : Room k X.A) (hx : Passes (L2.CX X.prog X.w) X E') (ho : DE X ⟨W1.and (Ww W1.cls C i), G0, H0, E0⟩ [] o fo) (ha : DA X ⟨W1.and (Ww W1.cls C i), G0, H0, E0⟩ [] (e :: es) fa)
    (hst : starEach (e :: es) X.env = (false, eval e X.env) :: starEach es X.env := by rfl) (hpl : (backTo cpos (starEach es X.env)).any (·.1) = false := by rfl)
    (hev : eval (.Call (.Attribute o mn apos) (e :: es) [] cpos) X.env = (do
      let ov ← eval o X.env
      standAt apos.atName
      let (f, first) ← holding [ov] (getMethod ov mn pl)
      callWith cpos f first (backTo cpos (starEach (e :: es) X.env)) (backToKw cpos (keywordEach [] X.env))) := by rfl) :
    PE X (.Call (.Attribute o mn apos) (e :: es) [] cpos) (rdEX ⟨W1.and (Ww W1.cls C i), G0, H0, E0⟩ E' (xMeth (t1 := W1.d) (t2 := Wt) n m fo fa)) := by
  obtain ⟨f, fd, ps, hF, hm, hb, h1, h2⟩ := M.ex
  have hi : IsInsM (Ww W1.cls C i) C mn := IsInsM.watch h1 h2
  refine PE.imp (pe_meth ho T.cl hm hF hr hb .nil hx ha hst hpl hev) fun σ H Q h => ?_
  obtain ⟨G, ρ, s, a, p⟩ := h
  refine ⟨G, ρ, s, a, ?_⟩
  unfold xMeth at p
  cases e1 : fo ρ s with
  | bad => rw [e1] at p; exact p.elim
  | exc c => rw [e1] at p; exact p.elim
  | ok y =>
    obtain ⟨dx, s1⟩ := y
    rw [e1] at p
    dsimp only at p
    intro v G1 H1 g1 S1 rx
    have a1 := a.step g1 S1
    by_cases hd : isT 1 dx = true
    · rw [if_pos hd] at p
      have hv := Rp.isT1 rx hd
      obtain ⟨y, dy, fs, e2, e3, e4⟩ := hi a1.sit.rep.2.1
      refine ⟨y, dy, fs, hv.trans e2, e3, e4, G1, ρ, s1, a1, ?_⟩
      cases e5 : fa ρ s1 with
      | bad => rw [e5] at p; exact p.elim
      | exc c => rw [e5] at p; exact p.elim
      | ok z =>
        obtain ⟨ds, s2⟩ := z
        rw [e5] at p
        dsimp only at p
        intro vs G2 H2 g2 S2 rv
        have a2 := a1.step g2 S2
        by_cases hl2 : ds.length + 1 = n ∧ allD ds = true
        · rw [if_pos hl2] at p
          rw [List.append_nil]
          exact ⟨i, G2, tokD 1 :: ds, s2.2, a2.sit.right, .cons (.inr ⟨1, rfl, hv⟩) (DgAll.rp (rv.dg hl2.2)), hl2.1, PostW.ofEX a2.sit (p.step (g1.trans g2))⟩
        · rw [if_neg hl2] at p; exact p.elim
    · rw [if_neg hd] at p; exact p.elim
theorem pex_mW0 {k : Nat} {mn : Str} {m : List PD → Wt → R (PD × Wt)} {o : Expr} {fo : Mx ⟨W1.and (Ww W1.cls C i), G0, H0, E0⟩ PD} {apos cpos : Pos} {pl : Sem Bool}
    (M : FnM X.prog X.w X.K X.mg X.base W1.cls C k mn 1 m) (T : WaC X.K X.mg C) (hr : Room k X.A) (hx : Passes (L2.CX X.prog X.w) X E') (ho : DE X ⟨W1.and (Ww W1.cls C i), G0, H0, E0⟩ [] o fo)
    (hev : eval (.Call (.Attribute o mn apos) [] [] cpos) X.env = (do
      let ov ← eval o X.env
      standAt apos.atName
      let (f, first) ← holding [ov] (getMethod ov mn pl)
      callWith cpos f first (backTo cpos (starEach [] X.env)) (backToKw cpos (keywordEach [] X.env))) := by rfl) :
    PE X (.Call (.Attribute o mn apos) [] [] cpos) (rdEX ⟨W1.and (Ww W1.cls C i), G0, H0, E0⟩ E' (xMeth0 (t1 := W1.d) (t2 := Wt) m fo)) := by
  obtain ⟨f, fd, ps, hF, hm, hb, h1, h2⟩ := M.ex
  have hi : IsInsM (Ww W1.cls C i) C mn := IsInsM.watch h1 h2
  refine PE.imp (pe_meth0 ho T.cl hm hF hr hb .nil hx hev) fun σ H Q h => ?_
  obtain ⟨G, ρ, s, a, p⟩ := h
  refine ⟨G, ρ, s, a, ?_⟩
  unfold xMeth0 at p
  cases e1 : fo ρ s with
  | bad => rw [e1] at p; exact p.elim
  | exc c => rw [e1] at p; exact p.elim
  | ok y =>
    obtain ⟨dx, s1⟩ := y
    rw [e1] at p
    dsimp only at p
    intro v G1 H1 g1 S1 rx
    have a1 := a.step g1 S1
    by_cases hd : isT 1 dx = true
    · rw [if_pos hd] at p
      have hv := Rp.isT1 rx hd
      obtain ⟨y, dy, fs, e2, e3, e4⟩ := hi a1.sit.rep.2.1
      exact ⟨y, dy, fs, hv.trans e2, e3, e4, i, G1, [tokD 1], s1.2, a1.sit.right, .cons (.inr ⟨1, rfl, hv⟩) .nil, rfl, PostW.ofEX a1.sit (p.step g1)⟩
    · rw [if_neg hd] at p; exact p.elim
end
section
variable {X : Cx} {W : Wd} {G0 H0 : Hp} {E' : XK}
theorem pex_if {c a b : Expr} {fc : Mx ⟨W, G0, H0, E0⟩ Bool} {f g : Env → W.d → RX (PD × W.d) W.d} {pos : Pos} (hc : DT X ⟨W, G0, H0, E0⟩ [] c fc) (ha : PE X a (rdEX ⟨W, G0, H0, E0⟩ E' f)) (hb : PE X b (rdEX ⟨W, G0, H0, E0⟩ E' g)) : PE X (.IfExp c a b pos) (rdEX ⟨W, G0, H0, E0⟩ E' (xIfE fc f g)) :=
  PE.imp (pe_ifExp hc ha hb) fun σ H Q h => by
    obtain ⟨G, ρ, s, a, p⟩ := h
    refine ⟨G, ρ, s, a, ?_⟩
    unfold xIfE at p
    cases e : fc ρ s with
    | bad => rw [e] at p; exact p.elim
    | exc c => rw [e] at p; exact p.elim
    | ok y =>
      obtain ⟨x, s1⟩ := y
      rw [e] at p
      intro G1 H1 g1 S1
      cases x with
      | true => exact ⟨G1, ρ, s1, a.step g1 S1, p.step g1⟩
      | false => exact ⟨G1, ρ, s1, a.step g1 S1, p.step g1⟩
theorem PostEX.ret {D : Ends} {G H : Hp} {σ : St} {ρ : Env} {s : W.d} {r : RX (PD × W.d) W.d} (a : At ⟨W, G0, H0, E0⟩ [] σ H G ρ s) (p : PostSX ⟨W, G0, H0, E0⟩ [] D E' (rtX r)) : PostEX ⟨W, G0, H0, E0⟩ E' G H r D.rt := by
  cases r with
  | bad => exact p
  | exc c s' => exact fun G' H' g S => p G' H' (a.gr.trans g) S
  | ok y => exact fun v G' H' g S rv => p v G' H' (a.gr.trans g) S rv
theorem psx_ret {e : Expr} {f : Env → W.d → RX (PD × W.d) W.d} {pos : Pos} (he : PE X e (rdEX ⟨W, G0, H0, E0⟩ E' f)) : PS X (.Return (some e) pos) (rdSX ⟨W, G0, H0, E0⟩ [] [] E' (xRet f)) :=
  PS.imp (ps_ret he) fun D σ H h => by
    obtain ⟨G, ρ, s, a, p⟩ := h
    exact ⟨G, ρ, s, a, PostEX.ret a p⟩
theorem psx_skip {c : Expr} {st : Stmt} {rest : List Stmt} {fc : Mx ⟨W, G0, H0, E0⟩ Bool} {g : Env → W.d → RX (Fl × W.d) W.d} {pos : Pos} (hc : DT X ⟨W, G0, H0, E0⟩ [] c fc) (hr : PSs X rest (rdSX ⟨W, G0, H0, E0⟩ [] [] E' g)) : PSs X (.If c [st] [] pos :: rest) (rdSX ⟨W, G0, H0, E0⟩ [] [] E' (xSkip fc g)) :=
  PSs.imp (pss_cons (ps_if hc (pss_one ps_never) pss_nil) hr) fun D σ H h => by
    obtain ⟨G, ρ, s, a, p⟩ := h
    refine ⟨G, ρ, s, a, ?_⟩
    unfold xSkip at p
    cases e : fc ρ s with
    | bad => rw [e] at p; exact p.elim
    | exc c => rw [e] at p; exact p.elim
    | ok y =>
      obtain ⟨x, s1⟩ := y
      rw [e] at p
      intro G1 H1 g1 S1
      cases x with
      | true => exact p.elim
      | false => exact ⟨G1, ρ, s1, a.step g1 S1, p⟩
theorem psx_then {c e : Expr} {rest : List Stmt} {fc : Mx ⟨W, G0, H0, E0⟩ Bool} {f : Env → W.d → RX (PD × W.d) W.d} {g : Env → W.d → RX (Fl × W.d) W.d} {pos rpos : Pos} (hc : DT X ⟨W, G0, H0, E0⟩ [] c fc) (he : PE X e (rdEX ⟨W, G0, H0, E0⟩ E' f)) (hr : PSs X rest (rdSX ⟨W, G0, H0, E0⟩ [] [] E' g)) : PSs X (.If c [.Return (some e) rpos] [] pos :: rest) (rdSX ⟨W, G0, H0, E0⟩ [] [] E' (xThen fc f g)) :=
  PSs.imp (pss_cons (ps_if hc (pss_one (ps_ret he)) pss_nil) hr) fun D σ H h => by
    obtain ⟨G, ρ, s, a, p⟩ := h
    refine ⟨G, ρ, s, a, ?_⟩
    unfold xThen at p
    cases e : fc ρ s with
    | bad => rw [e] at p; exact p.elim
    | exc c => rw [e] at p; exact p.elim
    | ok y =>
      obtain ⟨x, s1⟩ := y
      rw [e] at p
      intro G1 H1 g1 S1
      cases x with
      | true => exact ⟨G1, ρ, s1, a.step g1 S1, PostEX.ret (D := D) (a.step g1 S1) p⟩
      | false => exact ⟨G1, ρ, s1, a.step g1 S1, p⟩
end
def PostWX (cls : Nat → Addr) (W : Wd) (G H : Hp) (r : RX (PD × W.d) W.d) (Q : VK) (E : XK) : Prop :=
  match r with
  | .ok (d, s') => ∀ v G' H', Gr W.fp G H G' H' → Sit W G' H' s' → Rp W.tk G' v d → Q v H'
  | .exc c s' => ∀ G' H', Gr W.fp G H G' H' → Sit W G' H' s' → E (.ref (cls c)) none H'
  | .bad => False
def spWX (cls : Nat → Addr) (C : Addr) (n : Nat) (m : List PD → Wt → RX (PD × Wt) Wt) : Sp := fun vs H Q E => ∃ (i : Addr × Addr × Addr) (G : Hp) (ds : List PD) (s : Wt), Sit (Ww cls C i) G H s ∧ RpAll (Ww cls C i).tk G vs ds ∧ ds.length = n ∧ PostWX cls (Ww cls C i) G H (m ds s) Q E
structure FnX (P : Program) (w : World) (K : PySem.W.Frag) (mg : Str → Option Value) (base : Heap) (cls : Nat → Addr) (C : Addr) (k : Nat) (x : Str) (n : Nat) (m : List PD → Wt → RX (PD × Wt) Wt) : Prop where
  ex : ∃ f fd ps, FnOk P w K mg base (L2.CX P w) k f fd ps (spWX cls C n m) ∧ mg x = some (.ref f) ∧ PySem.W.keepIn K (.ref f) = true ∧ Binds K fd ps []
def mBodyX (n : Nat) (fb : Env → Unit × Wt → RX (Fl × (Unit × Wt)) (Unit × Wt)) : List PD → Wt → RX (PD × Wt) Wt := fun ds s => match fb (ds.map some ++ List.replicate n none) ((), s) with
  | .ok (.rt d, s') => if isD d then .ok (d, s'.2) else .bad
  | .exc c s' => .exc c s'.2
  | _ => .bad
section
variable {P : Program} {w : World} {K : PySem.W.Frag} {mg : Str → Option Value} {base : Heap} {x qual : Str} {params : Arguments} {body : List Stmt} {scope : Scope} {f : Addr} {fd : FuncData} {cls : Nat → Addr} {C : Addr}
theorem fn_X {N ps : List Str} {k n : Nat} {fb : Env → Unit × Wt → RX (Fl × (Unit × Wt)) (Unit × Wt)} (F : FunD K x qual params body scope [] [] f fd) (S : FnScope N ps scope) (hm : mg x = some (.ref f)) (hn : ps.length = n) (hb : Binds K fd ps [])
    (hbody : ∀ (cdv : Value) (A : Around) (outer : List PySem.Env) (s : Shared) (H : Hp) (E : XK) (i : Addr × Addr × Addr) (G : Hp), Room k (A.deeper (envOfC qual scope s.heap.objs.size f cdv)) →
      PSs (cxOf (L2.CX P w) P w K mg base N qual scope f cdv A outer s H E) body (rdSX ⟨(Wp cls (fun _ => (Ww cls C i).tk 1)).and (Ww cls C i), G, H, E0⟩ [] [] E fb)) : FnX P w K mg base cls C (k + 1) x n (mBodyX (N.length - n) fb) := by
  refine ⟨f, fd, ps, F.ok S (fun vs H Q E h => ?_) (fun cdv A outer s H vs Q E hr h => ?_), hm, F.kp, hb⟩
  · obtain ⟨i, G, ds, s, _, r, hl, _⟩ := h
    rw [r.len, hl, hn]
  · obtain ⟨i, G, ds, st, sit, r, hl, p⟩ := h
    refine ⟨_, hbody cdv A outer s H E i G hr, G, startD N ds, ((), st), ⟨sit.alone, .refl, RpAll.begin_ (W := (Wp cls (fun _ => (Ww cls C i).tk 1)).and (Ww cls C i)) N (r.and (fun _ => rfl) (fun _ => rfl))⟩, ?_⟩
    have p : PostWX cls (Ww cls C i) G H (mBodyX (N.length - n) fb ds st) Q E := p
    unfold mBodyX at p
    have e0 : startD N ds = ds.map some ++ List.replicate (N.length - n) none := by unfold startD; rw [hl]
    rw [e0]
    suffices key : ∀ r', fb (ds.map some ++ List.replicate (N.length - n) none) ((), st) = r' → PostSX ⟨(Wp cls (fun _ => (Ww cls C i).tk 1)).and (Ww cls C i), G, H, E0⟩ [] { nx := fun _ H' => Q .non H', rt := Q } E r' from key _ rfl
    intro r' er
    rw [er] at p
    cases r' with
    | bad => exact p.elim
    | exc c s' => exact fun G' H' g S' => p G' H' (Gr.alone (cls := cls) (tk := fun _ => .non) g) S'.right
    | ok y =>
      obtain ⟨fl, u⟩ := y
      cases fl with
      | nx ρ => exact p.elim
      | bk ρ => exact p.elim
      | ct ρ => exact p.elim
      | rt d =>
        dsimp only at p
        by_cases hd : isD d = true
        · rw [if_pos hd] at p
          exact fun v G' H' g st' rv => p v G' H' (Gr.alone (cls := cls) (tk := fun _ => .non) g) st'.right (.inl (rv.dg (isD_tok hd)))
        · rw [if_neg hd] at p; exact p.elim
end
def xCallX {t1 : Type} (n : Nat) (m : List PD → Wt → RX (PD × Wt) Wt) (a : Env → t1 × Wt → R (List PD × (t1 × Wt))) : Env → t1 × Wt → RX (Fl × (t1 × Wt)) (t1 × Wt) := fun ρ s => match a ρ s with
  | .ok (ds, s1) => if ds.length = n ∧ ds.all (okT 1) = true then (match m ds s1.2 with
    | .ok (_, t') => .ok (.nx ρ, (s1.1, t'))
    | .exc c t' => .exc c (s1.1, t')
    | .bad => .bad) else .bad
  | _ => .bad
theorem psx_callX {X : Cx} {O : List Nat} {W1 : Wd} {C : Addr} {i : Addr × Addr × Addr} {G0 H0 : Hp} {E' : XK} {k : Nat} {x : Str} {n : Nat} {m : List PD → Wt → RX (PD × Wt) Wt} {e : Expr} {es : List Expr} {fa : Mx ⟨W1.and (Ww W1.cls C i), G0, H0, E0⟩ (List PD)} {p cpos pos : Pos}
    (M : FnX X.prog X.w X.K X.mg X.base W1.cls C k x n m) (hr : Room k X.A) (hx : Passes (L2.CX X.prog X.w) X E') (ha : DA X ⟨W1.and (Ww W1.cls C i), G0, H0, E0⟩ O (e :: es) fa) (hg : Gl X x := by rfl)
    (hdb : (x == ("__debug__" : Str)) = false := by decide) (he : starEach (e :: es) X.env = (false, eval e X.env) :: starEach es X.env := by rfl) (hpl : (backTo cpos (starEach es X.env)).any (·.1) = false := by rfl)
    (hs : swapsWith (.Call (.Name x p) (e :: es) [] cpos) none pos.line X.env = pure false := by rfl) :
    PS X (.Expr (.Call (.Name x p) (e :: es) [] cpos) pos) (rdSX ⟨W1.and (Ww W1.cls C i), G0, H0, E0⟩ O O E' (xCallX (t1 := W1.d) n m fa)) := by
  obtain ⟨f, fd, ps, hF, hm, hk, hb⟩ := M.ex
  refine PS.imp (ps_expr (pe_call hF hr hg hm hk hb .nil hx ha hdb he hpl) hs) fun D σ H h => ?_
  obtain ⟨G, ρ, s, a, p⟩ := h
  refine ⟨G, ρ, s, a, ?_⟩
  unfold xCallX at p
  cases e5 : fa ρ s with
  | bad => rw [e5] at p; exact p.elim
  | exc c => rw [e5] at p; exact p.elim
  | ok z =>
    obtain ⟨ds, s2⟩ := z
    rw [e5] at p
    dsimp only at p
    intro vs G2 H2 g2 S2 rv
    have a2 := a.step g2 S2
    by_cases hl2 : ds.length = n ∧ ds.all (okT 1) = true
    · rw [if_pos hl2] at p
      rw [List.append_nil]
      refine ⟨i, G2, ds, s2.2, a2.sit.right, RpAll.one (fun _ => rfl) rv hl2.2, hl2.1, ?_⟩
      revert p
      cases m ds s2.2 with
      | bad => exact fun p => p
      | exc c t' => exact fun p G' H' g S => p G' H' (a2.gr.trans (g.weak fun _ z => .inr z)) (a2.sit.joinR g S)
      | ok y =>
        obtain ⟨d, t'⟩ := y
        exact fun p v G' H' g S rv' => p σ G' H' (a2.step (g.weak fun _ z => .inr z) (a2.sit.joinR g S))
    · rw [if_neg hl2] at p; exact p.elim
end DL

/-! DX2: t[::-1], t a tuple -/
namespace HT
open PySem PySem.Spec PyProof.Rows L2
section
variable {prog : Program} {w : World} {A : Around} {E : Value → Shared → Prop} {s : Shared}
theorem adjust_rev (n : Nat) : Builtin.Slice.sliceAdjust none none (-1) (n : Int) = ((n : Int) - 1, -1) := by
  unfold Builtin.Slice.sliceAdjust
  simp
theorem places_rev (n : Nat) : Builtin.Slice.slicePlaces ((n : Int) - 1) (-1) (-1) = n := by
  unfold Builtin.Slice.slicePlaces
  simp
  try omega
theorem sliceApplied_rev {sl : Addr} {vl vu vs : Value} {n : Nat} {Q : Int × Int × Nat → Shared → Prop} (hs : s.heap.IsSliceOf sl vl vu vs) (pl : IsPart vl none) (pu : IsPart vu none) (ps : IsPart vs (some (-1)))
    (h : Q ((n : Int) - 1, -1, n) s) : wpAny (model prog w) A (Builtin.Slice.sliceApplied (.ref sl) (pure (n : Int))) Q E s := by
  obtain ⟨os, hos, hcs, hds⟩ := id hs
  unfold Builtin.Slice.sliceApplied Builtin.Slice.sliceFields
  refine wpAny_bind (wpAny_bind (wpAny_field hos hds (x := vl) rfl (wpAny_bind (wpAny_field hos hds (x := vu) rfl (wpAny_bind (wpAny_field hos hds (x := vs) rfl (wpAny_pure ?_)))))))
  refine wpAny_bind (slicePart_ ps ?_)
  show wpAny _ _ (if ((-1 : Int) == 0) = true then _ else _) _ _ s
  rw [if_neg (by decide)]
  refine wpAny_bind (slicePart_ pl (wpAny_bind (slicePart_ pu (wpAny_bind (wpAny_pure ?_)))))
  show wpAny _ _ (match Builtin.Slice.sliceAdjust none none (-1) (n : Int) with | (lo, hi) => pure (lo, (-1 : Int), Builtin.Slice.slicePlaces lo hi (-1))) _ _ s
  rw [adjust_rev n]
  show wpAny _ _ (pure ((n : Int) - 1, (-1 : Int), Builtin.Slice.slicePlaces ((n : Int) - 1) (-1) (-1))) _ _ s
  rw [places_rev]
  exact wpAny_pure h
theorem fm_congr {a b : Type} {f g : a → Option b} : ∀ {l : List a}, (∀ x ∈ l, f x = g x) → l.filterMap f = l.filterMap g
  | [], _ => rfl
  | x :: l, h => by
    rw [List.filterMap_cons, List.filterMap_cons, h x (by simp), fm_congr fun y hy => h y (List.mem_cons_of_mem _ hy)]
theorem pick_rev (xs : Array Value) : ((List.range xs.size).filterMap fun (m : Nat) => xs[((xs.size : Int) - 1 + (m : Int) * (-1)).toNat]?).toArray = xs.toList.reverse.toArray := by
  have e : ((List.range xs.size).filterMap fun (m : Nat) => xs[((xs.size : Int) - 1 + (m : Int) * (-1)).toNat]?) = ((List.range xs.size).map fun k => xs.size - 1 - k).filterMap (xs[·]?) := by
    rw [List.filterMap_map]
    refine fm_congr fun m hm => ?_
    have := List.mem_range.mp hm
    show _ = xs[xs.size - 1 - m]?
    congr 1
    omega
  rw [e, PySem.W.krv_range, List.filterMap_reverse, PySem.W.krv_all]
theorem getItem_tuple_rev {t sl : Addr} {items : Array Value} {vl vu vs : Value} {Q : Value → Shared → Prop} (ht : IsTup s.heap t items) (hs : s.heap.IsSliceOf sl vl vu vs) (pl : IsPart vl none) (pu : IsPart vu none) (ps : IsPart vs (some (-1)))
    (h : Q (.ref s.heap.objs.size) { s with heap := s.heap.push { cls := .type "tuple", data := .seq items.toList.reverse.toArray } })
    (hsz : items.size ≤ sizeLine) : wpAny (model prog w) A (getItem (.ref t) (.ref sl)) Q E s := by
  have htake : sizeOk (.seq items.toList.reverse.toArray) := by
    show items.toList.reverse.toArray.size ≤ sizeLine
    rw [List.size_toArray, List.length_reverse, Array.length_toList]
    exact hsz
  obtain ⟨os, hos, hcs, hds⟩ := id hs
  have hTs : s.TypeIs (.ref sl) "slice" := ⟨os, hos, hcs⟩
  unfold getItem
  try with_reducible refine wpAny_holding ?_
  first | refine wpAny_bind (wpAny_pure ?_) | skip
  refine wpAny_bind (wpAny_sequenceKey ht.typeIs (by decide) ?_)
  refine wpAny_bind (wpAny_callSpecial?_slot (name := Str.ofString "__getitem__") ht.typeIs PyProof.Rows.slot_tuple_getitem
    (wpAny_call_entry PyProof.Rows.slot_tuple_getitem ht.typeIs entry_tuple_getitem ?_ (args_tuple_getitem _ _)))
  show wpAny _ _ (Builtin.Tuple.tupleItemsOf (.ref t) >>= _) _ _ s
  refine wpAny_bind (tupleItemsOf_ ht ?_)
  refine wpAny_bind (wpAny_typeOf hTs ?_)
  rw [if_pos (by decide)]
  refine wpAny_bind (sliceApplied_rev hs pl pu ps ?_)
  have hno : ¬ ((((items.size : Int) - 1) == 0 && (-1 : Int) == 1 && items.size == items.size) = true) := by
    intro q
    rw [Bool.and_eq_true, Bool.and_eq_true] at q
    exact absurd q.1.2 (by decide)
  show wpAny _ _ (if (((items.size : Int) - 1) == 0 && (-1 : Int) == 1 && items.size == items.size) = true then _ else _) _ _ s
  rw [if_neg hno, pick_rev]
  first
    | exact wpAny_bind (m := Builtin.Tuple.tupleExact _) (wpAny_newObj_type (wpAny_pure ⟨_, rfl, wpAny_pure h⟩) htake)
    | exact wpAny_bind (m := Builtin.Tuple.tupleExact _) (wpAny_newObj_type (wpAny_bind (wpAny_pure (wpAny_pure ⟨_, rfl, wpAny_pure h⟩))) htake)
    | exact wpAny_bind (wpAny_bind (m := Builtin.Tuple.tupleExact _) (wpAny_newObj_type (wpAny_pure (wpAny_pure ⟨_, rfl, wpAny_pure h⟩)) htake))
    | exact wpAny_bind (wpAny_bind (m := Builtin.Tuple.tupleExact _) (wpAny_newObj_type (wpAny_pure ⟨_, rfl, wpAny_pure h⟩) htake))
end
end HT
namespace DL
open PySem PySem.Spec PyProof.Rows L2
section
variable {X : Cx} {B : Bs} {O : List Nat}
theorem pe_revT {e : Expr} {te : TE} {k : Nat} {p1 p2 p3 pos : Pos} (he : PE X e te) : PE X (.Subscript e (.Slice none none (some (.UnaryOp .USub (.Constant (.int 1) k p1) p2)) p3) pos) (fun σ H Q => te σ H fun x H1 => ∃ a xs, x = .ref a ∧ SqT X.K H1 a xs ∧ ∀ p, H1 p = none → Q (.ref p) (upd H1 p (.tup xs.reverse))) := by
  refine ⟨fun pins s σ H Q I h => ?_⟩
  refine Subscript_ (thn (he.run pins s σ H _ I h) fun v s1 ⟨x, H1, I1, r1, q1⟩ => ?_)
  obtain ⟨a, xs, ex, hx, q⟩ := q1
  subst ex
  cases r1
  have hst : PO X (some (.UnaryOp .USub (.Constant (.int 1) k p1) p2)) (tPart (tUn (rU fun i => .int (-i)) (tC (.int 1)))) := po_some (pe_un un_neg pe_int)
  refine wpAny_Slice (thn (po_none.run pins s1 σ H1 (fun o H2 => o = none ∧ H2 = H1) I1 ⟨rfl, rfl⟩) fun vl s2 ⟨l, H2, I2, pl, el, e2⟩ => ?_)
  subst el e2
  refine thn (po_none.run pins s2 σ H2 (fun o H3 => o = none ∧ H3 = H2) I2 ⟨rfl, rfl⟩) fun vu s3 ⟨u, H3, I3, pu, eu, e3⟩ => ?_
  subst eu e3
  refine thn (hst.run pins s3 σ H3 (fun o H4 => o = some (-1) ∧ H4 = H3) I3 ⟨1, rfl, -1, rfl, rfl, rfl⟩) fun vs s4 ⟨o, H4, I4, ps, eo, e4⟩ => ?_
  subst eo e4
  have I5 : Inv X pins σ H4 { s4 with heap := s4.heap.push { cls := .type "slice", data := .fields #[vl, vu, vs] } } := I4.kept (t' := s4.toks) fun b ob q => Heap.get?_push_of_some _ q
  obtain ⟨its, r, ht, hz⟩ := I5.tuple hx
  have hlen := r.length
  show wpAny (model X.prog X.w) X.A (subscriptTail e (.Slice none none (some (.UnaryOp .USub (.Constant (.int 1) k p1) p2)) p3) (.ref a) (.ref s4.heap.objs.size)) (EP X pins σ Q) X.xe { s4 with heap := s4.heap.push { cls := .type "slice", data := .fields #[vl, vu, vs] } }
  refine tail_any (ops := [.ref a, .ref s4.heap.objs.size]) ht.typeIs (PyProof.Rows.slot_tuple_getitem.lookup) ?_ (by with_unfolding_all rfl)
  refine HT.getItem_tuple_rev ht (Heap.IsSliceOf.new _ vl vu vs) pl pu ps ?_ (by rw [List.size_toArray]; omega)
  refine ⟨.ref _, _, I5.laid (t' := s4.toks) (o := .tup xs.reverse) (fun b ob q => Heap.get?_push_of_some _ q) (Nat.le_refl _) ?_, rfl, q _ (I5.hok.fresh (Nat.le_refl _))⟩
  exact ⟨by rw [List.length_reverse]; exact hz, _, r.reverse, IsTup.new _ _⟩
def pRevT : PD → R PD
  | .tuple xs => .ok (.tuple xs.reverse)
  | _ => .bad
theorem de_revT {e : Expr} {fe : Mx B PD} {k : Nat} {p1 p2 p3 pos : Pos} (he : DE X B O e fe) : DE X B O (.Subscript e (.Slice none none (some (.UnaryOp .USub (.Constant (.int 1) k p1) p2)) p3) pos) (cUn pRevT fe) :=
  PE.imp (pe_revT he) fun σ H Q h => by
    obtain ⟨G, ρ, s, a, p⟩ := h
    refine rdE.then a p fun x G1 H1 dx s1 a1 g1 rx p1 => ?_
    cases dx with
    | tuple ds =>
      obtain ⟨l, vs, rfl, gl, dl⟩ := (rx.dg (isD_tok rfl)).of_tup
      exact ⟨_, _, rfl, SqT.of (a1.sit.sub _ _ gl), fun q hq => PostE.tup (ds := ds.reverse) a1.sit dl.rev p1 hq⟩
    | dict _ => exact p1.elim
    | _ => exact p1.elim
end
end DL

/-! M0: loops and comprehensions evaluated -/
namespace DL
open PySem PySem.Spec PyProof.Rows L2
/-- a comprehension without effects -/
theorem compGo_pure {d a : Type} {b : Bd} {own : List Nat} {t : Env → d → R (Bool × d)} {f : Env → d → R (PD × d)} {ρ : Env} (enc : a → PD) (keep : a → Bool) (val : a → PD) (s : d) : ∀ (xs : List a),
    (∀ x ∈ xs, ∃ ρ1, b (enc x) (wipeD ρ own) = some ρ1 ∧ t ρ1 s = .ok (keep x, s) ∧ (keep x = true → f ρ1 s = .ok (val x, s) ∧ isD (val x) = true)) → compGo b own t f ρ (xs.map enc) s = .ok ((xs.filter keep).map val, s)
  | [], _ => rfl
  | x :: xs, h => by
    obtain ⟨ρ1, h1, h2, h3⟩ := h x (by simp)
    have ih := compGo_pure (b := b) (own := own) (t := t) (f := f) (ρ := ρ) enc keep val s xs fun y hy => h y (List.mem_cons_of_mem _ hy)
    show compGo b own t f ρ (enc x :: xs.map enc) s = _
    unfold compGo
    rw [h1]
    dsimp only
    rw [h2, noX_ok, bnd_ok]
    cases hk : keep x with
    | true =>
      obtain ⟨h4, h5⟩ := h3 hk
      rw [if_pos rfl, h4, noX_ok, bnd_ok, if_pos h5, ih, bnd_ok, List.filter_cons_of_pos hk]
      rfl
    | false =>
      rw [if_neg (by simp), ih, List.filter_cons_of_neg (by simp [hk])]
theorem cComp_pure {d a : Type} {it : Env → d → R (List PD × d)} {b : Bd} {own : List Nat} {t : Env → d → R (Bool × d)} {f : Env → d → R (PD × d)} {ρ : Env} {s : d} (xs : List a) (enc : a → PD) (keep : a → Bool) (val : a → PD) (hi : it ρ s = .ok (xs.map enc, s)) (hl : xs.length ≤ 100000)
    (h : ∀ x ∈ xs, ∃ ρ1, b (enc x) (wipeD ρ own) = some ρ1 ∧ t ρ1 s = .ok (keep x, s) ∧ (keep x = true → f ρ1 s = .ok (val x, s) ∧ isD (val x) = true)) : cComp it b own t f ρ s = .ok (.list ((xs.filter keep).map val), s) := by
  unfold cComp
  rw [hi, bnd_ok, if_pos (by rw [List.length_map]; exact hl), compGo_pure enc keep val s xs h, bnd_ok]
/-- .. no test -/
theorem cComp_map {d a : Type} {it : Env → d → R (List PD × d)} {b : Bd} {own : List Nat} {f : Env → d → R (PD × d)} {ρ : Env} {s : d} (xs : List a) (enc : a → PD) (val : a → PD) (hi : it ρ s = .ok (xs.map enc, s)) (hl : xs.length ≤ 100000)
    (h : ∀ x ∈ xs, ∃ ρ1, b (enc x) (wipeD ρ own) = some ρ1 ∧ f ρ1 s = .ok (val x, s) ∧ isD (val x) = true) : cComp it b own tYesD f ρ s = .ok (.list (xs.map val), s) := by
  have := cComp_pure (t := tYesD) (f := f) (b := b) (own := own) (ρ := ρ) xs enc (fun _ => true) val hi hl fun x hx => by
    obtain ⟨ρ1, h1, h2⟩ := h x hx
    exact ⟨ρ1, h1, rfl, fun _ => h2⟩
  rw [this, List.filter_eq_self.mpr (by simp)]
/-- a for loop whose every turn goes on: the state by an invariant form -/
theorem sForGo_fold {d a b : Type} {bd : Bd} {body : Env → d → R (Fl × d)} (enc : a → PD) (env : b → Env) (step : b → a → b) (s : d) : ∀ (xs : List a) (st : b),
    (∀ (st : b) (x : a), x ∈ xs → ∃ ρ1, bd (enc x) (env st) = some ρ1 ∧ body ρ1 s = .ok (.nx (env (step st x)), s)) → sForGo bd body (xs.map enc) (env st) s = .ok (.nx (env (xs.foldl step st)), s)
  | [], st, _ => rfl
  | x :: xs, st, h => by
    obtain ⟨ρ1, h1, h2⟩ := h st x (by simp)
    show sForGo bd body (enc x :: xs.map enc) (env st) s = _
    unfold sForGo
    rw [h1]
    dsimp only
    rw [h2]
    dsimp only
    exact sForGo_fold enc env step s xs (step st x) fun st y hy => h st y (List.mem_cons_of_mem _ hy)
/-- .. by what holds between two turns -/
theorem sForGo_inv {d a : Type} {bd : Bd} {body : Env → d → R (Fl × d)} (enc : a → PD) (Inv : List a → Env → d → Prop) : ∀ (xs pre : List a) (ρ : Env) (s : d), Inv pre ρ s →
    (∀ (p : List a) (x : a) (q : List a) ρ s, pre ++ xs = p ++ x :: q → Inv p ρ s → ∃ ρ1 ρ2 s2, bd (enc x) ρ = some ρ1 ∧ body ρ1 s = .ok (.nx ρ2, s2) ∧ Inv (p ++ [x]) ρ2 s2) →
    ∃ ρ' s', sForGo bd body (xs.map enc) ρ s = .ok (.nx ρ', s') ∧ Inv (pre ++ xs) ρ' s'
  | [], pre, ρ, s, h0, _ => ⟨ρ, s, rfl, by rw [List.append_nil]; exact h0⟩
  | x :: xs, pre, ρ, s, h0, h => by
    obtain ⟨ρ1, ρ2, s2, h1, h2, h3⟩ := h pre x xs ρ s rfl h0
    obtain ⟨ρ', s', e, i⟩ := sForGo_inv (bd := bd) (body := body) enc Inv xs (pre ++ [x]) ρ2 s2 h3 fun p y q ρ s hq => h p y q ρ s (by rw [← hq]; simp)
    refine ⟨ρ', s', ?_, by rw [List.append_assoc] at i; exact i⟩
    show sForGo bd body (enc x :: xs.map enc) ρ s = _
    unfold sForGo
    rw [h1]
    dsimp only
    rw [h2]
    exact e
/-- a loop that leaves at the first item of a kind -/
theorem sForGo_find {d a : Type} {bd : Bd} {body : Env → d → R (Fl × d)} (enc : a → PD) (p : a → Bool) (val : a → PD) (Ok : Env → Prop) (s : d) : ∀ (xs : List a) (ρ : Env), Ok ρ →
    (∀ x ∈ xs, ∀ ρ, Ok ρ → ∃ ρ1, bd (enc x) ρ = some ρ1 ∧ (p x = true → body ρ1 s = .ok (.rt (val x), s)) ∧ (p x = false → ∃ ρ2, Ok ρ2 ∧ body ρ1 s = .ok (.nx ρ2, s))) →
    match xs.find? p with
    | some x => sForGo bd body (xs.map enc) ρ s = .ok (.rt (val x), s)
    | none => ∃ ρ', Ok ρ' ∧ sForGo bd body (xs.map enc) ρ s = .ok (.nx ρ', s)
  | [], ρ, h0, _ => ⟨ρ, h0, rfl⟩
  | x :: xs, ρ, h0, h => by
    obtain ⟨ρ1, h1, h2, h3⟩ := h x (by simp) ρ h0
    cases hp : p x with
    | true =>
      rw [List.find?_cons_of_pos hp]
      show sForGo bd body (enc x :: xs.map enc) ρ s = _
      unfold sForGo
      rw [h1]
      dsimp only
      rw [h2 hp]
    | false =>
      obtain ⟨ρ2, k2, e2⟩ := h3 hp
      rw [List.find?_cons_of_neg (by simp [hp])]
      have ih := sForGo_find (bd := bd) (body := body) enc p val Ok s xs ρ2 k2 fun y hy => h y (List.mem_cons_of_mem _ hy)
      have e : sForGo bd body (enc x :: xs.map enc) ρ s = sForGo bd body (xs.map enc) ρ2 s := by
        conv => lhs; unfold sForGo
        rw [h1]
        dsimp only
        rw [e2]
      show match xs.find? p with
        | some y => sForGo bd body (enc x :: xs.map enc) ρ s = _
        | none => ∃ ρ', Ok ρ' ∧ sForGo bd body (enc x :: xs.map enc) ρ s = _
      rw [e]
      exact ih
/-- a comprehension that changes the state -/
theorem compGo_eff {d a : Type} {b : Bd} {own : List Nat} {f : Env → d → R (PD × d)} {ρ : Env} (enc : a → PD) (I : d → Prop) (P : PD → Prop) : ∀ (xs : List a) (s : d), I s →
    (∀ x ∈ xs, ∀ s, I s → ∃ ρ1 y s', b (enc x) (wipeD ρ own) = some ρ1 ∧ f ρ1 s = .ok (y, s') ∧ isD y = true ∧ P y ∧ I s') → ∃ ys s', compGo b own tYesD f ρ (xs.map enc) s = .ok (ys, s') ∧ ys.length = xs.length ∧ (∀ y ∈ ys, P y) ∧ I s'
  | [], s, hs, _ => ⟨[], s, rfl, rfl, (fun y h => by cases h), hs⟩
  | x :: xs, s, hs, h => by
    obtain ⟨ρ1, y, s1, h1, h2, h3, h4, h5⟩ := h x (by simp) s hs
    obtain ⟨ys, s2, e, l, p, i⟩ := compGo_eff (b := b) (own := own) (f := f) (ρ := ρ) enc I P xs s1 h5 fun z hz => h z (List.mem_cons_of_mem _ hz)
    refine ⟨y :: ys, s2, ?_, by simp [l], fun z hz => ?_, i⟩
    · show compGo b own tYesD f ρ (enc x :: xs.map enc) s = _
      unfold compGo
      rw [h1]
      dsimp only
      rw [show tYesD ρ1 s = .ok (true, s) from rfl, noX_ok, bnd_ok, if_pos rfl, h2, noX_ok, bnd_ok, if_pos h3, e, bnd_ok]
    · rcases List.mem_cons.mp hz with q | q
      · rw [q]; exact h4
      · exact p z q
abbrev Th := Int × Bool
abbrev Pt := Int × Int
def eT (x : Th) : PD := .tuple [.int x.1, .bool x.2]
def eP (x : Pt) : PD := .tuple [.int x.1, .int x.2]
def encT (T : List Th) : PD := .list (T.map eT)
def encP (P : List Pt) : PD := .list (P.map eP)
theorem isD_int (i : Int) : isD (.int i) = true := rfl
theorem isD_bool (i : Bool) : isD (.bool i) = true := rfl
theorem isD_none : isD .none = true := rfl
theorem isD_str (i : Str) : isD (.str i) = true := rfl
theorem isD_list (i : List PD) : isD (.list i) = true := rfl
theorem isD_tuple (i : List PD) : isD (.tuple i) = true := rfl
theorem isD_eP (p : Pt) : isD (eP p) = true := rfl
theorem isD_eT (p : Th) : isD (eT p) = true := rfl
theorem isD_encP (p : List Pt) : isD (encP p) = true := rfl
theorem isD_encT (p : List Th) : isD (encT p) = true := rfl
theorem isOk_ok (d : PD) : isOk (.ok d) = .ok d := rfl
theorem isOk_exc (c : Nat) : isOk (.exc c) = .bad := rfl
theorem isOk_bad : isOk .bad = .bad := rfl
theorem isL_list (xs : List PD) : isL (.list xs) = true := rfl
theorem isL_encP (xs : List Pt) : isL (encP xs) = true := rfl
theorem szL : sizeLine = 16777216 := rfl
theorem pLe_i (i j : Int) : pLe (.int i) (.int j) = .ok (.bool (decide (i ≤ j))) := rfl
theorem pLt_i (i j : Int) : pLt (.int i) (.int j) = .ok (.bool (decide (i < j))) := rfl
theorem pGt_i (i j : Int) : pGt (.int i) (.int j) = .ok (.bool (decide (j < i))) := rfl
theorem pGe_i (i j : Int) : pGe (.int i) (.int j) = .ok (.bool (decide (j ≤ i))) := rfl
theorem pAdd_i (i j : Int) : pAdd (.int i) (.int j) = .ok (.int (i + j)) := rfl
theorem pSub_i (i j : Int) : pSub (.int i) (.int j) = .ok (.int (i - j)) := rfl
theorem pLen_l (xs : List PD) : pLen [.list xs] = .ok (.int xs.length) := rfl
theorem pLen_t (xs : List PD) : pLen [.tuple xs] = .ok (.int xs.length) := rfl
theorem pIx_t0 (x : PD) (xs : List PD) : pIx (.tuple (x :: xs)) (.int 0) = .ok x := by
  simp [pIx, L2.atI, ixN]
theorem pIx_t1 (x y : PD) (xs : List PD) : pIx (.tuple (x :: y :: xs)) (.int 1) = .ok y := by
  have h : (1 : Int) < (xs.length : Int) + 1 + 1 := by omega
  simp [pIx, L2.atI, ixN, h]
theorem pEq_ok {d e : PD} (h1 : SeqAt.shaped d = true) (h2 : SeqAt.shaped e = true) : pEq d e = .ok (.bool (PyData.eqv d e)) := by
  unfold pEq; rw [h1, h2]; rfl
theorem pNe_ok {d e : PD} (h1 : SeqAt.shaped d = true) (h2 : SeqAt.shaped e = true) : pNe d e = .ok (.bool (!PyData.eqv d e)) := by
  unfold pNe; rw [h1, h2]; rfl
theorem eqv_int (i j : Int) : PyData.eqv (.int i) (.int j) = decide (i = j) := by
  show (i == j) = _
  by_cases h : i = j
  · subst h; simp
  · simp [h]
theorem shaped_int (i : Int) : SeqAt.shaped (.int i) = true := rfl
theorem shaped_bool (i : Bool) : SeqAt.shaped (.bool i) = true := rfl
theorem shaped_none : SeqAt.shaped .none = true := rfl
theorem pEq_i (i j : Int) : pEq (.int i) (.int j) = .ok (.bool (decide (i = j))) := by rw [pEq_ok rfl rfl, eqv_int]
theorem pNe_i (i j : Int) : pNe (.int i) (.int j) = .ok (.bool (!decide (i = j))) := by rw [pNe_ok rfl rfl, eqv_int]
theorem pMul_i {i j : Int} (h : -(2 ^ 64) < i ∧ i < 2 ^ 64) : pMul (.int i) (.int j) = .ok (.int (i * j)) := by
  show (if mulOk i j = true then _ else _) = _
  rw [if_pos]
  unfold mulOk
  rw [decide_eq_true h.1, decide_eq_true h.2]; rfl
/-- a chain of two <= -/
theorem chain_le {d : Type} (a b c : Env → d → R (PD × d)) (ρ : Env) (s : d) (x y z : Int) (ha : a ρ s = .ok (.int x, s)) (hb : b ρ s = .ok (.int y, s)) (hc : c ρ s = .ok (.int z, s)) : cChain pLe pLe a b c ρ s = .ok (.bool (decide (x ≤ y) && decide (y ≤ z)), s) := by
  unfold cChain
  rw [ha, bnd_ok, hb, bnd_ok, if_pos (show (isD (.int x) && isD (.int y)) = true from rfl), pLe_i]
  by_cases h : x ≤ y
  · rw [decide_eq_true h]
    show bnd (c ρ s) _ = _
    rw [hc, bnd_ok, if_pos (show isD (.int z) = true from rfl), pLe_i]; rfl
  · rw [decide_eq_false h]; rfl
end DL

/-! M1: things -/
namespace DL
open PySem PySem.Spec PyProof.Rows L2
local macro_rules | `(tactic| walk_at "ev") => `(tactic| simp only [szL, Nat.reduceLeDiff, mBody, mBodyD, outP, outD, cVar, cC, cOp, cUn, cTest, cAndT, cOrT, cNotT, cAndV, cOrV, cIf, aNil, aCons, cTup, cLst, cSl, oNone, oSome, cCall, cCallF, cCallD, cMeth, noX', isL_list, isL_encP, tYesD, bnd_ok, bnd_exc, bnd_bad, lft_ok, lft_exc, lft_bad, isOk_ok, isOk_exc, isOk_bad, isD_int, isD_bool, isD_none, isD_str, isD_list, isD_tuple, isD_eP, isD_eT, isD_encP, isD_encT, allD, List.all_cons, List.all_nil, Bool.and_self, Bool.and_true, Bool.true_and, if_true, if_false, Bool.false_eq_true, ite_true, ite_false, reduceIte, List.length_cons, List.length_nil, List.map_cons, List.map_nil, List.cons_append, List.nil_append, List.replicate_succ, List.replicate_zero, List.getElem?_cons_zero, List.getElem?_cons_succ, List.set_cons_zero, List.set_cons_succ, wipeD, sSeq, sSet, sAsg, sRet, sIf, sExpr, sNil, sRaise, sSetF, sApp, sAug, sAugL, sPar, sPar3, fLst, bNm, bTup, bCons, bNil, pNot, pIsi, isiT, tyN, pNeg, Nat.reduceAdd, decide_true, decide_false, Bool.not_true, Bool.not_false, noX_ok, pLe_i, pLt_i, pGt_i, pGe_i, pAdd_i, pSub_i, pLen_l, pLen_t, pIx_t0, pIx_t1, pEq_i, pNe_i])
local macro_rules | `(tactic| walk_at "evs") => `(tactic| simp [szL, mBody, mBodyD, outP, outD, cVar, cC, cOp, cUn, cTest, cAndT, cOrT, cNotT, cAndV, cOrV, cIf, aNil, aCons, cTup, cLst, cSl, oNone, oSome, cCall, cCallF, cCallD, cMeth, noX', isL_list, isL_encP, tYesD, bnd_ok, bnd_exc, bnd_bad, lft_ok, lft_exc, lft_bad, isOk_ok, isOk_exc, isOk_bad, isD_int, isD_bool, isD_none, isD_str, isD_list, isD_tuple, isD_eP, isD_eT, isD_encP, isD_encT, allD, List.all_cons, List.all_nil, List.map_cons, List.map_nil, List.cons_append, List.nil_append, List.replicate_succ, List.replicate_zero, List.getElem?_cons_zero, List.getElem?_cons_succ, List.set_cons_zero, List.set_cons_succ, wipeD, sSeq, sSet, sAsg, sRet, sIf, sExpr, sNil, sRaise, sSetF, sApp, sAug, sAugL, sPar, sPar3, fLst, bNm, bTup, bCons, bNil, pNot, pIsi, isiT, tyN, pNeg, noX_ok, pLe_i, pLt_i, pGt_i, pGe_i, pAdd_i, pSub_i, pLen_l, pLen_t, pIx_t0, pIx_t1, pEq_i, pNe_i])
local macro_rules | `(tactic| walk_at "evx") => `(tactic| simp [szL, mBody, mBodyD, outP, outD, cVar, cC, cOp, cUn, cTest, cAndT, cOrT, cNotT, cAndV, cOrV, cIf, aNil, aCons, cTup, cLst, cSl, oNone, oSome, cCall, cCallF, cCallD, cMeth, noX', isL_list, isL_encP, tYesD, bnd_ok, bnd_exc, bnd_bad, lft_ok, lft_exc, lft_bad, isOk_ok, isOk_exc, isOk_bad, isD_int, isD_bool, isD_none, isD_str, isD_list, isD_tuple, isD_eP, isD_eT, isD_encP, isD_encT, allD, List.all_cons, List.all_nil, List.map_cons, List.map_nil, List.cons_append, List.nil_append, List.replicate_succ, List.replicate_zero, List.getElem?_cons_zero, List.getElem?_cons_succ, List.set_cons_zero, List.set_cons_succ, wipeD, sSeq, sSet, sAsg, sRet, sIf, sExpr, sNil, sRaise, sSetF, sApp, sAug, sAugL, sPar, sPar3, fLst, bNm, bTup, bCons, bNil, pNot, pIsi, isiT, tyN, pNeg, noX_ok, pLe_i, pLt_i, pGt_i, pGe_i, pAdd_i, pSub_i, pLen_l, pLen_t, pIx_t0, pIx_t1, pEq_i, pNe_i, *])
structure GoodT (T : List Th) : Prop where
  l1 : 1 ≤ T.length
  l2 : T.length ≤ 12
  sc : ∀ x ∈ T, 0 ≤ x.1 ∧ x.1 ≤ 99
theorem m_is_int_int (v lo hi : Int) : m_is_int [.int v, .int lo, .int hi] = .ok (.bool (decide (lo ≤ v) && decide (v ≤ hi))) := by
  unfold m_is_int b_is_int
  walk_at "ev"
  rw [chain_le (d := Unit) (cVar 1) (cVar 0) (cVar 2) [some (.int v), some (.int lo), some (.int hi)] () lo v hi rfl rfl rfl]
  simp
theorem m_is_thing_eT (x : Th) (h : 0 ≤ x.1 ∧ x.1 ≤ 99) : m_is_thing [eT x] = .ok (.bool true) := by
  unfold m_is_thing b_is_thing eT
  have e := m_is_int_int x.1 0 99
  rw [decide_eq_true h.1, decide_eq_true h.2] at e
  walk_at "evx"
theorem m_is_things_encT {T : List Th} (g : GoodT T) : m_is_things [encT T] = .ok (.bool true) := by
  unfold m_is_things b_is_things encT
  have hc : cComp (iLst (cVar 0)) (bNm 1) [1] tYesD (cCallF 1 m_is_thing (aCons (cVar 1) aNil)) [some (.list (T.map eT)), none] () = .ok (.list (T.map fun _ => .bool true), ()) := by
    refine cComp_map T eT (fun _ => .bool true) (by simp [iLst, cVar]) (by have := g.l2; omega) fun x hx => ⟨_, rfl, ?_, rfl⟩
    walk_at "ev"
    rw [m_is_thing_eT x (g.sc x hx)]
    rfl
  have hb : toBools (T.map fun _ => PyData.bool true) = some (T.map fun _ => true) := by
    have := toBools_map (T.map fun _ => true)
    rw [List.map_map] at this
    exact this
  have h1 := g.l1
  have h2 := g.l2
  have e1 : decide ((1 : Int) ≤ (T.length : Int)) = true := decide_eq_true (by omega)
  have e2 : decide ((T.length : Int) ≤ 12) = true := decide_eq_true (by omega)
  have hch : cChain pLe pLe (cC (.int 1)) (cCall pLen (aCons (cVar 0) aNil)) (cC (.int 12)) [some (.list (T.map eT)), none] () = .ok (.bool true, ()) := by
    rw [chain_le (d := Unit) _ _ _ _ () 1 T.length 12 rfl (by walk_at "ev"; rw [List.length_map]) rfl, e1, e2]; rfl
  have hp : pAll [.list (T.map fun _ => .bool true)] = .ok (.bool true) := by
    simp [pAll, hb]
  walk_at "evx"
def fa (T : List Th) (t : Int) : Int := ((T.filter fun x => decide (t ≤ x.1) && !x.2).length : Int)
def tr (T : List Th) (t : Int) : Int := ((T.filter fun x => decide (t ≤ x.1) && x.2).length : Int)
def cnt (T : List Th) (t : Int) : Pt := (fa T t, tr T t)
theorem m_counts_eq {T : List Th} (g : T.length ≤ 1000) (t : Int) : m_counts [encT T, .int t] = .ok (eP (cnt T t)) := by
  unfold m_counts b_counts encT
  have h1 : cComp (iLst (cVar 0)) (bTup (bCons (bNm 3) (bCons (bNm 4) bNil))) [3, 4] (cAndT (cTest (cOp pGe (cVar 3) (cVar 1))) (cNotT (cTest (cVar 4)))) (cC (.int 1)) [some (.list (T.map eT)), some (.int t), none, none, none] () = .ok (.list ((T.filter fun x => decide (t ≤ x.1) && !x.2).map fun _ => .int 1), ()) := by
    refine cComp_pure T eT _ _ (by simp [iLst, cVar]) (by omega) fun x hx => ⟨_, rfl, ?_, fun _ => ⟨rfl, rfl⟩⟩
    by_cases h : t ≤ x.1 <;> walk_at "evs" <;> simp [h]
  have h2 : ∀ y, cComp (iLst (cVar 0)) (bTup (bCons (bNm 3) (bCons (bNm 4) bNil))) [3, 4] (cAndT (cTest (cOp pGe (cVar 3) (cVar 1))) (cTest (cVar 4))) (cC (.int 1)) [some (.list (T.map eT)), some (.int t), y, none, none] () = .ok (.list ((T.filter fun x => decide (t ≤ x.1) && x.2).map fun _ => .int 1), ()) := fun y => by
    refine cComp_pure T eT _ _ (by simp [iLst, cVar]) (by omega) fun x hx => ⟨_, rfl, ?_, fun _ => ⟨rfl, rfl⟩⟩
    by_cases h : t ≤ x.1 <;> walk_at "evs" <;> simp [h]
  walk_at "ev"
  rw [h1]
  walk_at "ev"
  rw [h2]
  walk_at "ev"
  simp [eP, cnt, fa, tr, sizeLine]
/-- the unlike scores, the greatest first -/
def scs (T : List Th) : List Int := (sortU (T.map (·.1))).reverse
theorem m_scores_of_eq {T : List Th} (g : T.length < 64) : m_scores_of [encT T] = .ok (.list ((scs T).map PyData.int)) := by
  unfold m_scores_of b_scores_of encT
  have h1 : cComp (iLst (cVar 0)) (bTup (bCons (bNm 1) (bCons (bNm 2) bNil))) [1, 2] tYesD (cVar 1) [some (.list (T.map eT)), none, none] () = .ok (.list (T.map fun x => .int x.1), ()) := by
    refine cComp_map T eT _ (by simp [iLst, cVar]) (by omega) fun x hx => ⟨_, rfl, rfl, rfl⟩
  have h2 : toInts (T.map fun x => PyData.int x.1) = some (T.map (·.1)) := by
    have := toInts_map (T.map (·.1))
    rw [List.map_map] at this
    exact this
  have h3 : pSortSet (.list (T.map fun x => PyData.int x.1)) = .ok (.list ((sortU (T.map (·.1))).map PyData.int)) := by
    show (match toInts (T.map fun x => PyData.int x.1) with | some ns => _ | none => _) = _
    rw [h2]
    show (if (T.map (·.1)).length < 64 then _ else _) = _
    rw [if_pos (by rw [List.length_map]; exact g)]
  walk_at "ev"
  rw [h1]
  walk_at "ev"
  rw [h3]
  walk_at "ev"
  simp [pRev, scs, isOk_ok]
theorem len_insU (k : Int) : ∀ l : List Int, (insU k l).length ≤ l.length + 1
  | [] => by simp [insU]
  | x :: r => by
    have := len_insU k r
    unfold insU
    split
    · simp
    · split
      · simp
      · simp only [List.length_cons]; omega
theorem len_sortU : ∀ l : List Int, (sortU l).length ≤ l.length
  | [] => by simp [sortU]
  | x :: r => by
    have h1 := len_sortU r
    have h2 := len_insU x (sortU r)
    unfold sortU
    simp only [List.length_cons]; omega
theorem scs_len (T : List Th) : (scs T).length ≤ T.length := by
  unfold scs
  rw [List.length_reverse]
  have := len_sortU (T.map (·.1))
  rwa [List.length_map] at this
/-- the points -/
def pts (T : List Th) : List Pt := (0, 0) :: (scs T).map (cnt T)
theorem m_points_of_eq {T : List Th} (g : T.length < 64) : m_points_of [encT T] = .ok (encP (pts T)) := by
  unfold m_points_of b_points_of
  have hs := m_scores_of_eq g
  have hl := scs_len T
  have h1 : cComp (iLst (cCallF 1 m_scores_of (aCons (cVar 0) aNil))) (bNm 1) [1] tYesD (cCallF 2 m_counts (aCons (cVar 0) (aCons (cVar 1) aNil))) [some (encT T), none] () = .ok (.list ((scs T).map fun t => eP (cnt T t)), ()) := by
    refine cComp_map (scs T) PyData.int _ ?_ (by omega) fun x hx => ⟨_, rfl, ?_, rfl⟩
    · have he : cCallF 1 m_scores_of (aCons (cVar 0) aNil) [some (encT T), none] () = .ok (.list ((scs T).map PyData.int), ()) := by
        walk_at "ev"
        rw [hs]
        rfl
      unfold iLst
      rw [he]
      rfl
    · walk_at "ev"
      rw [m_counts_eq (by omega)]
      rfl
  walk_at "ev"
  rw [h1]
  walk_at "ev"
  have hp : pAdd (.list [.tuple [.int 0, .int 0]]) (.list ((scs T).map fun t => eP (cnt T t))) = .ok (encP (pts T)) := by
    show (if 1 + ((scs T).map fun t => eP (cnt T t)).length ≤ sizeLine then _ else _) = _
    rw [if_pos (by rw [List.length_map, szL]; omega)]
    simp [encP, pts, eP]
  rw [hp]
  rfl
theorem m_check_things_eq {T : List Th} (g : GoodT T) : m_check_things [encT T] = .ok .none := by
  unfold m_check_things b_check_things
  walk_at "ev"
  rw [m_is_things_encT g]
  rfl
theorem GoodT.l64 {T : List Th} (g : GoodT T) : T.length < 64 := by have := g.l2; omega
theorem GoodT.l1000 {T : List Th} (g : GoodT T) : T.length ≤ 1000 := by have := g.l2; omega
theorem m_curve_eq {T : List Th} (g : GoodT T) : m_curve [encT T] = .ok (encP (pts T)) := by
  unfold m_curve b_curve
  walk_at "ev"
  rw [m_check_things_eq g]
  walk_at "ev"
  rw [m_points_of_eq g.l64]
  rfl
theorem m_totals_eq {T : List Th} (g : GoodT T) : m_totals [encT T] = .ok (eP (cnt T 0)) := by
  unfold m_totals b_totals
  walk_at "ev"
  rw [m_check_things_eq g]
  walk_at "ev"
  rw [m_counts_eq g.l1000]
  rfl
theorem m_unlike_scores_eq {T : List Th} (g : GoodT T) : m_unlike_scores [encT T] = .ok (.list ((scs T).map PyData.int)) := by
  unfold m_unlike_scores b_unlike_scores
  walk_at "ev"
  rw [m_check_things_eq g]
  walk_at "ev"
  rw [m_scores_of_eq g.l64]
  rfl
theorem m_check_threshold_eq {t : Int} (h : 0 ≤ t ∧ t ≤ 100) : m_check_threshold [.int t] = .ok .none := by
  unfold m_check_threshold b_check_threshold
  walk_at "ev"
  rw [show (99 : Int) + 1 = 100 from rfl, m_is_int_int, decide_eq_true h.1, decide_eq_true h.2]
  rfl
theorem m_alarms_at_eq {T : List Th} (g : GoodT T) {t : Int} (h : 0 ≤ t ∧ t ≤ 100) : m_alarms_at [encT T, .int t] = .ok (eP (cnt T t)) := by
  unfold m_alarms_at b_alarms_at
  walk_at "ev"
  rw [m_check_things_eq g]
  walk_at "ev"
  rw [m_check_threshold_eq h]
  walk_at "ev"
  rw [m_counts_eq g.l1000]
  rfl
/-! ### the law's own point -/
theorem m__law_point_eq {T : List Th} (g : T.length ≤ 1000) (t : Int) : m__law_point [encT T, .int t] = .ok (eP (cnt T t)) := by
  unfold m__law_point b__law_point encT
  have h1 : cComp (iLst (cVar 0)) (bTup (bCons (bNm 3) (bCons (bNm 4) bNil))) [3, 4] (cTest (cOp pGe (cVar 3) (cVar 1))) (cVar 4) [some (.list (T.map eT)), some (.int t), none, none, none] () = .ok (.list ((T.filter fun x => decide (t ≤ x.1)).map fun x => .bool x.2), ()) := by
    refine cComp_pure T eT _ _ (by simp [iLst, cVar]) (by omega) fun x hx => ⟨_, rfl, ?_, fun _ => ⟨rfl, rfl⟩⟩
    rfl
  have h2 : toBools ((T.filter fun x => decide (t ≤ x.1)).map fun x => PyData.bool x.2) = some ((T.filter fun x => decide (t ≤ x.1)).map (·.2)) := by
    have := toBools_map ((T.filter fun x => decide (t ≤ x.1)).map (·.2))
    rw [List.map_map] at this
    exact this
  have hc : ∀ b : Bool, pCount (.list ((T.filter fun x => decide (t ≤ x.1)).map fun x => .bool x.2)) (.bool b) = .ok (.int (((T.filter fun x => decide (t ≤ x.1)).map (·.2)).count b : Nat)) := fun b => by
    show (match toBools _ with | some bs => _ | none => _) = _
    rw [h2]
  have cf : ∀ (b : Bool) (T : List Th), ((T.filter fun x => decide (t ≤ x.1)).map (·.2)).count b = (T.filter fun x => decide (t ≤ x.1) && (x.2 == b)).length := by
    intro b T
    induction T with
    | nil => rfl
    | cons x T ih =>
      by_cases h : t ≤ x.1
      · rw [List.filter_cons_of_pos (by simpa using h), List.map_cons, List.count_cons, ih]
        by_cases hb : x.2 = b
        · rw [List.filter_cons_of_pos (by simp [h, hb])]; simp [hb]
        · rw [List.filter_cons_of_neg (by simp [hb])]; simp [hb]
      · rw [List.filter_cons_of_neg (by simpa using h), List.filter_cons_of_neg (by simp [h]), ih]
  walk_at "ev"
  rw [h1]
  walk_at "ev"
  rw [hc, hc, cf, cf]
  walk_at "ev"
  simp [eP, cnt, fa, tr]
end DL

/-! M2: the curve -/
namespace DL
open PySem PySem.Spec PyProof.Rows L2
local macro_rules | `(tactic| walk_at "ev") => `(tactic| simp only [szL, Nat.reduceLeDiff, mBody, mBodyD, outP, outD, cVar, cC, cOp, cUn, cTest, cAndT, cOrT, cNotT, cAndV, cOrV, cIf, aNil, aCons, cTup, cLst, cSl, oNone, oSome, cCall, cCallF, cCallD, cMeth, noX', isL_list, isL_encP, tYesD, bnd_ok, bnd_exc, bnd_bad, lft_ok, lft_exc, lft_bad, isOk_ok, isOk_exc, isOk_bad, isD_int, isD_bool, isD_none, isD_str, isD_list, isD_tuple, isD_eP, isD_eT, isD_encP, isD_encT, allD, List.all_cons, List.all_nil, Bool.and_self, Bool.and_true, Bool.true_and, if_true, if_false, Bool.false_eq_true, ite_true, ite_false, reduceIte, List.length_cons, List.length_nil, List.map_cons, List.map_nil, List.cons_append, List.nil_append, List.replicate_succ, List.replicate_zero, List.getElem?_cons_zero, List.getElem?_cons_succ, List.set_cons_zero, List.set_cons_succ, wipeD, sSeq, sSet, sAsg, sRet, sIf, sExpr, sNil, sRaise, sSetF, sApp, sAug, sAugL, sPar, sPar3, fLst, bNm, bTup, bCons, bNil, pNot, pIsi, isiT, tyN, pNeg, Nat.reduceAdd, decide_true, decide_false, Bool.not_true, Bool.not_false, noX_ok, pLe_i, pLt_i, pGt_i, pGe_i, pAdd_i, pSub_i, pLen_l, pLen_t, pIx_t0, pIx_t1, pEq_i, pNe_i])
local macro_rules | `(tactic| walk_at "evs") => `(tactic| simp [szL, mBody, mBodyD, outP, outD, cVar, cC, cOp, cUn, cTest, cAndT, cOrT, cNotT, cAndV, cOrV, cIf, aNil, aCons, cTup, cLst, cSl, oNone, oSome, cCall, cCallF, cCallD, cMeth, noX', isL_list, isL_encP, tYesD, bnd_ok, bnd_exc, bnd_bad, lft_ok, lft_exc, lft_bad, isOk_ok, isOk_exc, isOk_bad, isD_int, isD_bool, isD_none, isD_str, isD_list, isD_tuple, isD_eP, isD_eT, isD_encP, isD_encT, allD, List.all_cons, List.all_nil, List.map_cons, List.map_nil, List.cons_append, List.nil_append, List.replicate_succ, List.replicate_zero, List.getElem?_cons_zero, List.getElem?_cons_succ, List.set_cons_zero, List.set_cons_succ, wipeD, sSeq, sSet, sAsg, sRet, sIf, sExpr, sNil, sRaise, sSetF, sApp, sAug, sAugL, sPar, sPar3, fLst, bNm, bTup, bCons, bNil, pNot, pIsi, isiT, tyN, pNeg, noX_ok, pLe_i, pLt_i, pGt_i, pGe_i, pAdd_i, pSub_i, pLen_l, pLen_t, pIx_t0, pIx_t1, pEq_i, pNe_i])
local macro_rules | `(tactic| walk_at "evx") => `(tactic| simp [szL, mBody, mBodyD, outP, outD, cVar, cC, cOp, cUn, cTest, cAndT, cOrT, cNotT, cAndV, cOrV, cIf, aNil, aCons, cTup, cLst, cSl, oNone, oSome, cCall, cCallF, cCallD, cMeth, noX', isL_list, isL_encP, tYesD, bnd_ok, bnd_exc, bnd_bad, lft_ok, lft_exc, lft_bad, isOk_ok, isOk_exc, isOk_bad, isD_int, isD_bool, isD_none, isD_str, isD_list, isD_tuple, isD_eP, isD_eT, isD_encP, isD_encT, allD, List.all_cons, List.all_nil, List.map_cons, List.map_nil, List.cons_append, List.nil_append, List.replicate_succ, List.replicate_zero, List.getElem?_cons_zero, List.getElem?_cons_succ, List.set_cons_zero, List.set_cons_succ, wipeD, sSeq, sSet, sAsg, sRet, sIf, sExpr, sNil, sRaise, sSetF, sApp, sAug, sAugL, sPar, sPar3, fLst, bNm, bTup, bCons, bNil, pNot, pIsi, isiT, tyN, pNeg, noX_ok, pLe_i, pLt_i, pGt_i, pGe_i, pAdd_i, pSub_i, pLen_l, pLen_t, pIx_t0, pIx_t1, pEq_i, pNe_i, *])
/-! ### plain facts -/
theorem mem_scs {T : List Th} {t : Int} : t ∈ scs T ↔ ∃ x ∈ T, x.1 = t := by
  unfold scs
  rw [List.mem_reverse, mem_sortU, List.mem_map]
theorem scs_gt (T : List Th) : (scs T).Pairwise (· > ·) := by
  unfold scs
  rw [List.pairwise_reverse]
  exact lt_sortU
/-- how many alarms in all -/
def al (T : List Th) (t : Int) : Int := ((T.filter fun x => decide (t ≤ x.1)).length : Int)
theorem al_sum (T : List Th) (t : Int) : fa T t + tr T t = al T t := by
  unfold fa tr al
  induction T with
  | nil => rfl
  | cons x T ih =>
    by_cases h : t ≤ x.1
    · cases hb : x.2 with
      | true =>
        rw [List.filter_cons_of_neg (by simp [hb]), List.filter_cons_of_pos (by simp [h, hb]), List.filter_cons_of_pos (by simpa using h)]
        simp only [List.length_cons]; omega
      | false =>
        rw [List.filter_cons_of_pos (by simp [h, hb]), List.filter_cons_of_neg (by simp [hb]), List.filter_cons_of_pos (by simpa using h)]
        simp only [List.length_cons]; omega
    · rw [List.filter_cons_of_neg (by simp [h]), List.filter_cons_of_neg (by simp [h]), List.filter_cons_of_neg (by simpa using h)]
      exact ih
theorem filter_len_mono {a : Type} {p q : a → Bool} (h : ∀ x, p x = true → q x = true) : ∀ l : List a, (l.filter p).length ≤ (l.filter q).length
  | [] => Nat.le_refl _
  | x :: l => by
    have ih := filter_len_mono h l
    cases hp : p x with
    | true =>
      rw [List.filter_cons_of_pos hp, List.filter_cons_of_pos (h x hp)]
      simp only [List.length_cons]; omega
    | false =>
      rw [List.filter_cons_of_neg (by simp [hp])]
      cases hq : q x with
      | true => rw [List.filter_cons_of_pos hq]; simp only [List.length_cons]; omega
      | false => rw [List.filter_cons_of_neg (by simp [hq])]; exact ih
theorem filter_len_lt {a : Type} {p q : a → Bool} (h : ∀ x, p x = true → q x = true) : ∀ (l : List a) (y : a), y ∈ l → p y = false → q y = true → (l.filter p).length < (l.filter q).length
  | [], _, m, _, _ => by cases m
  | x :: l, y, m, h1, h2 => by
    have ih := filter_len_mono h l
    rcases List.mem_cons.mp m with e | e
    · subst e
      rw [List.filter_cons_of_neg (by simp [h1]), List.filter_cons_of_pos h2]
      simp only [List.length_cons]; omega
    · have ih2 := filter_len_lt h l y e h1 h2
      cases hp : p x with
      | true =>
        rw [List.filter_cons_of_pos hp, List.filter_cons_of_pos (h x hp)]
        simp only [List.length_cons]; omega
      | false =>
        rw [List.filter_cons_of_neg (by simp [hp])]
        cases hq : q x with
        | true => rw [List.filter_cons_of_pos hq]; simp only [List.length_cons]; omega
        | false => rw [List.filter_cons_of_neg (by simp [hq])]; exact ih2
theorem fa_mono (T : List Th) {s t : Int} (h : s ≤ t) : fa T t ≤ fa T s := by
  unfold fa
  have := filter_len_mono (p := fun x : Th => decide (t ≤ x.1) && !x.2) (q := fun x => decide (s ≤ x.1) && !x.2) (fun x hx => by
    simp only [Bool.and_eq_true, decide_eq_true_eq] at hx ⊢
    exact ⟨by omega, hx.2⟩) T
  omega
theorem tr_mono (T : List Th) {s t : Int} (h : s ≤ t) : tr T t ≤ tr T s := by
  unfold tr
  have := filter_len_mono (p := fun x : Th => decide (t ≤ x.1) && x.2) (q := fun x => decide (s ≤ x.1) && x.2) (fun x hx => by
    simp only [Bool.and_eq_true, decide_eq_true_eq] at hx ⊢
    exact ⟨by omega, hx.2⟩) T
  omega
theorem al_lt (T : List Th) {s t : Int} (h : s < t) (m : s ∈ scs T) : al T t < al T s := by
  obtain ⟨x, hx, e⟩ := mem_scs.mp m
  unfold al
  have := filter_len_lt (p := fun x : Th => decide (t ≤ x.1)) (q := fun x => decide (s ≤ x.1)) (fun y hy => by
    simp only [decide_eq_true_eq] at hy ⊢; omega) T x hx (by simp; omega) (by simp; omega)
  omega
theorem cnt_same (T : List Th) {t : Int} (h : t ∉ scs T) : cnt T t = cnt T (t + 1) := by
  have hx : ∀ x ∈ T, x.1 ≠ t := fun x hx e => h (mem_scs.mpr ⟨x, hx, e⟩)
  unfold cnt fa tr
  have e1 : (T.filter fun x => decide (t ≤ x.1) && !x.2) = T.filter fun x => decide (t + 1 ≤ x.1) && !x.2 := by
    apply List.filter_congr
    intro x m
    have := hx x m
    congr 1
    by_cases h1 : t ≤ x.1
    · rw [decide_eq_true h1, decide_eq_true (by omega)]
    · rw [decide_eq_false h1, decide_eq_false (by omega)]
  have e2 : (T.filter fun x => decide (t ≤ x.1) && x.2) = T.filter fun x => decide (t + 1 ≤ x.1) && x.2 := by
    apply List.filter_congr
    intro x m
    have := hx x m
    congr 1
    by_cases h1 : t ≤ x.1
    · rw [decide_eq_true h1, decide_eq_true (by omega)]
    · rw [decide_eq_false h1, decide_eq_false (by omega)]
  rw [e1, e2]
theorem cnt_top {T : List Th} (g : GoodT T) {t : Int} (h : 100 ≤ t) : cnt T t = (0, 0) := by
  unfold cnt fa tr
  rw [List.filter_eq_nil_iff.mpr, List.filter_eq_nil_iff.mpr]
  · rfl
  · intro x hx
    have := g.sc x hx
    simp; omega
  · intro x hx
    have := g.sc x hx
    simp; omega
/-- the points of thresholds from 100 down, each once -/
def crv (T : List Th) (ts : List Int) (found : List Pt) : List Pt := ts.foldl (fun acc t => if cnt T t ∈ acc then acc else acc ++ [cnt T t]) found
def down (n : Nat) : List Int := (List.range n).map fun (i : Nat) => 100 - (i : Int)
theorem down_succ (n : Nat) : down (n + 1) = down n ++ [100 - (n : Int)] := by
  unfold down
  rw [List.range_succ, List.map_append]; rfl
/-- behind n thresholds -/
theorem crv_down {T : List Th} (g : GoodT T) : ∀ n : Nat, 1 ≤ n → crv T (down n) [] = (0, 0) :: ((scs T).filter fun s => decide (100 - (n : Int) < s)).map (cnt T)
  | 0, h => by omega
  | 1, _ => by
    have e : ((scs T).filter fun s => decide (100 - ((1 : Nat) : Int) < s)) = [] := by
      rw [List.filter_eq_nil_iff]
      intro s hs
      obtain ⟨x, hx, e⟩ := mem_scs.mp hs
      have := g.sc x hx
      simp; omega
    rw [e]
    have e2 := cnt_top g (Int.le_refl 100)
    simp [crv, down, e2]
  | n + 2, _ => by
    have ih := crv_down g (n + 1) (by omega)
    rw [down_succ (n + 1)]
    unfold crv at ih ⊢
    rw [List.foldl_append, ih]
    simp only [List.foldl_cons, List.foldl_nil]
    have hN : (((n + 1 : Nat) : Int)) = (n : Int) + 1 := by omega
    have hN2 : (((n + 2 : Nat) : Int)) = (n : Int) + 2 := by omega
    rw [hN, hN2]
    generalize ht : 100 - ((n : Int) + 1) = t
    have ht2 : 100 - ((n : Int) + 2) = t - 1 := by omega
    rw [ht2]
    by_cases m : t ∈ scs T
    · -- a new point
      have hnew : cnt T t ∉ (0, 0) :: ((scs T).filter fun s => decide (t < s)).map (cnt T) := by
        intro hm
        have key : ∀ u, t < u → cnt T t ≠ cnt T u := fun u hu e => by
          have h1 := al_lt T hu m
          have h2 : al T t = al T u := by
            rw [← al_sum, ← al_sum]
            have e1 : fa T t = fa T u := congrArg Prod.fst e
            have e2 : tr T t = tr T u := congrArg Prod.snd e
            rw [e1, e2]
          omega
        rcases List.mem_cons.mp hm with e | e
        · have e2 := cnt_top g (Int.le_refl 100)
          exact key 100 (by omega) (e.trans e2.symm)
        · obtain ⟨u, hu, e⟩ := List.mem_map.mp e
          have := (List.mem_filter.mp hu).2
          exact key u (by simpa using this) e.symm
      rw [if_neg hnew, List.cons_append]
      congr 1
      rw [← List.map_singleton, ← List.map_append]
      congr 1
      -- the scores above t - 1 are those above t and t
      have aux : ∀ (l : List Int), l.Pairwise (· > ·) → t ∈ l → (l.filter fun s => decide (t < s)) ++ [t] = l.filter fun s => decide (t - 1 < s) := by
        intro l
        induction l with
        | nil => intro _ h; cases h
        | cons a l ih =>
          intro hp hm
          have hp' := List.pairwise_cons.mp hp
          by_cases ha : a = t
          · subst ha
            rw [List.filter_cons_of_neg (by simp), List.filter_cons_of_pos (by simp; omega)]
            have e1 : (l.filter fun s => decide (a < s)) = [] := by
              rw [List.filter_eq_nil_iff]
              intro s hs
              have := hp'.1 s hs
              simp; omega
            have e2 : (l.filter fun s => decide (a - 1 < s)) = [] := by
              rw [List.filter_eq_nil_iff]
              intro s hs
              have := hp'.1 s hs
              simp; omega
            rw [e1, e2]; rfl
          · have hm' : t ∈ l := by
              rcases List.mem_cons.mp hm with z | z
              · exact absurd z.symm ha
              · exact z
            have hat := hp'.1 t hm'
            rw [List.filter_cons_of_pos (by simp; omega), List.filter_cons_of_pos (by simp; omega), List.cons_append, ih hp'.2 hm']
      exact aux (scs T) (scs_gt T) m
    · -- the same point as the one above
      have hold : cnt T t ∈ (0, 0) :: ((scs T).filter fun s => decide (t < s)).map (cnt T) := by
        rw [cnt_same T m]
        -- the first score at or above t + 1, or none
        have key : ∀ k : Nat, ∀ u : Int, t < u → u + (k : Int) = 100 → cnt T u ∈ (0, 0) :: ((scs T).filter fun s => decide (t < s)).map (cnt T) := by
          intro k
          induction k with
          | zero =>
            intro u hu e
            rw [cnt_top g (by omega)]; simp
          | succ k ih =>
            intro u hu e
            by_cases mu : u ∈ scs T
            · exact List.mem_cons_of_mem _ (List.mem_map.mpr ⟨u, List.mem_filter.mpr ⟨mu, by simpa using hu⟩, rfl⟩)
            · rw [cnt_same T mu]
              exact ih (u + 1) (by omega) (by omega)
        by_cases h100 : t + 1 ≤ 100
        · exact key (100 - (t + 1)).toNat (t + 1) (by omega) (by omega)
        · rw [cnt_top g (by omega)]; simp
      rw [if_pos hold]
      congr 2
      apply List.filter_congr
      intro s hs
      have hne : s ≠ t := fun z => m (by rw [← z]; exact hs)
      by_cases h1 : t < s
      · rw [decide_eq_true h1, decide_eq_true (by omega)]
      · rw [decide_eq_false h1, decide_eq_false (by omega)]
theorem crv_eq {T : List Th} (g : GoodT T) : crv T (down 101) [] = pts T := by
  rw [crv_down g 101 (by omega)]
  unfold pts
  congr 1
  rw [List.filter_eq_self.mpr]
  intro s hs
  obtain ⟨x, hx, e⟩ := mem_scs.mp hs
  have := g.sc x hx
  simp; omega
/-! ### encodings are one to one -/
theorem eqv_eP (p q : Pt) : PyData.eqv (eP p) (eP q) = decide (p = q) := by
  unfold eP
  show PyData.eqvAll [.int p.1, .int p.2] [.int q.1, .int q.2] = _
  show ((p.1 == q.1) && ((p.2 == q.2) && true)) = _
  by_cases h : p = q
  · subst h; simp
  · rw [decide_eq_false h]
    by_cases h1 : p.1 = q.1
    · have h2 : p.2 ≠ q.2 := fun h2 => h (Prod.ext h1 h2)
      simp [h2]
    · simp [h1]
theorem sh_eP (p : Pt) : Sh 1 (eP p) := Sh.tuple (n := 0) fun x hx => by
  simp only [List.mem_cons, List.not_mem_nil, or_false] at hx
  rcases hx with rfl | rfl <;> exact Sh.int _
theorem sh_eT (p : Th) : Sh 1 (eT p) := Sh.tuple (n := 0) fun x hx => by
  simp only [List.mem_cons, List.not_mem_nil, or_false] at hx
  rcases hx with rfl | rfl
  · exact Sh.int _
  · exact Sh.bool _
theorem sh_encP (P : List Pt) : Sh 2 (encP P) := Sh.list (n := 1) fun x hx => by
  obtain ⟨p, _, rfl⟩ := List.mem_map.mp hx
  exact sh_eP p
theorem sh_encT (P : List Th) : Sh 2 (encT P) := Sh.list (n := 1) fun x hx => by
  obtain ⟨p, _, rfl⟩ := List.mem_map.mp hx
  exact sh_eT p
theorem shaped_eP (p : Pt) : SeqAt.shaped (eP p) = true := (sh_eP p).ok (by decide)
theorem shaped_encP (P : List Pt) : SeqAt.shaped (encP P) = true := (sh_encP P).ok (by decide)
theorem shaped_encT (P : List Th) : SeqAt.shaped (encT P) = true := (sh_encT P).ok (by decide)
theorem any_eP (p : Pt) : ∀ P : List Pt, (P.map eP).any (fun z => PyData.eqv z (eP p)) = decide (p ∈ P)
  | [] => rfl
  | q :: P => by
    rw [List.map_cons, List.any_cons, any_eP p P, eqv_eP]
    by_cases h : q = p
    · subst h; simp
    · have h' : p ≠ q := fun z => h z.symm
      simp [h, h']
theorem pNotIn_eP (p : Pt) (P : List Pt) : pNotIn (eP p) (encP P) = .ok (.bool (!decide (p ∈ P))) := by
  unfold encP
  show (if SeqAt.shaped (eP p) && SeqAt.shaped (encP P) then _ else _) = _
  rw [shaped_eP, shaped_encP]
  rw [any_eP]
  rfl
theorem pIn_eP (p : Pt) (P : List Pt) : pIn (eP p) (encP P) = .ok (.bool (decide (p ∈ P))) := by
  unfold encP
  show (if SeqAt.shaped (eP p) && SeqAt.shaped (encP P) then _ else _) = _
  rw [shaped_eP, shaped_encP]
  rw [any_eP]
  rfl
theorem eqvAll_enc {a : Type} (e : a → PD) (h : ∀ x y, PyData.eqv (e x) (e y) = true ↔ x = y) : ∀ xs ys : List a, PyData.eqvAll (xs.map e) (ys.map e) = true ↔ xs = ys
  | [], [] => by simp [PyData.eqvAll]
  | [], y :: ys => by simp [PyData.eqvAll]
  | x :: xs, [] => by simp [PyData.eqvAll]
  | x :: xs, y :: ys => by
    show (PyData.eqv (e x) (e y) && PyData.eqvAll (xs.map e) (ys.map e)) = true ↔ _
    rw [Bool.and_eq_true, h, eqvAll_enc e h xs ys]
    constructor
    · rintro ⟨rfl, rfl⟩; rfl
    · intro z; injection z with z1 z2; exact ⟨z1, z2⟩
theorem eqv_encP (P Q : List Pt) : PyData.eqv (encP P) (encP Q) = decide (P = Q) := by
  have h := eqvAll_enc eP (fun x y => by rw [eqv_eP, decide_eq_true_eq]) P Q
  show PyData.eqvAll (P.map eP) (Q.map eP) = _
  by_cases e : P = Q
  · rw [decide_eq_true e]; exact h.mpr e
  · rw [decide_eq_false e]
    cases q : PyData.eqvAll (P.map eP) (Q.map eP) with
    | false => rfl
    | true => exact absurd (h.mp q) e
theorem eqv_ints (P Q : List Int) : PyData.eqv (.list (P.map PyData.int)) (.list (Q.map PyData.int)) = decide (P = Q) := by
  have h := eqvAll_enc PyData.int (fun x y => by rw [eqv_int, decide_eq_true_eq]) P Q
  show PyData.eqvAll (P.map PyData.int) (Q.map PyData.int) = _
  by_cases e : P = Q
  · rw [decide_eq_true e]; exact h.mpr e
  · rw [decide_eq_false e]
    cases q : PyData.eqvAll (P.map PyData.int) (Q.map PyData.int) with
    | false => rfl
    | true => exact absurd (h.mp q) e
theorem pEq_eP (p q : Pt) : pEq (eP p) (eP q) = .ok (.bool (decide (p = q))) := by rw [pEq_ok (shaped_eP p) (shaped_eP q), eqv_eP]
theorem pNe_eP (p q : Pt) : pNe (eP p) (eP q) = .ok (.bool (!decide (p = q))) := by rw [pNe_ok (shaped_eP p) (shaped_eP q), eqv_eP]
theorem pEq_encP (p q : List Pt) : pEq (encP p) (encP q) = .ok (.bool (decide (p = q))) := by rw [pEq_ok (shaped_encP p) (shaped_encP q), eqv_encP]
theorem pNe_encP (p q : List Pt) : pNe (encP p) (encP q) = .ok (.bool (!decide (p = q))) := by rw [pNe_ok (shaped_encP p) (shaped_encP q), eqv_encP]
theorem pNe_ints (p q : List Int) : pNe (.list (p.map PyData.int)) (.list (q.map PyData.int)) = .ok (.bool (!decide (p = q))) := by rw [pNe_ok (shaped_ints p) (shaped_ints q), eqv_ints]
theorem pEq_ints (p q : List Int) : pEq (.list (p.map PyData.int)) (.list (q.map PyData.int)) = .ok (.bool (decide (p = q))) := by rw [pEq_ok (shaped_ints p) (shaped_ints q), eqv_ints]
/-! ### the law's curve -/
theorem rngL_down (n : Nat) : rngL 100 (-1) n = (down n).map PyData.int := by
  unfold rngL down
  rw [List.map_map]
  apply List.map_congr_left
  intro i _
  show PyData.int (100 + (i : Int) * -1) = PyData.int (100 - (i : Int))
  congr 1; omega
theorem m__law_curve_eq {T : List Th} (g : GoodT T) : m__law_curve [encT T] = .ok (encP (pts T)) := by
  unfold m__law_curve b__law_curve
  have loop : ∀ (ts : List Int) (found : List Pt) (x y : Option PD), found.length + ts.length ≤ 1000 → ∃ x' y', sForGo (bNm 2) (sSeq (sSet 3 (cCallF 2 m__law_point (aCons (cVar 0) (aCons (cVar 2) aNil)))) (sIf (cTest (cOp pNotIn (cVar 3) (cVar 1))) (sApp 1 (cVar 3)) sNil)) (ts.map PyData.int) [some (encT T), some (encP found), x, y] () = .ok (.nx [some (encT T), some (encP (crv T ts found)), x', y'], ()) := by
    intro ts
    induction ts with
    | nil => intro found x y _; exact ⟨x, y, rfl⟩
    | cons t ts ih =>
      intro found x y hl
      rw [List.map_cons]
      unfold sForGo
      walk_at "ev"
      rw [m__law_point_eq g.l1000]
      walk_at "ev"
      rw [pNotIn_eP]
      walk_at "ev"
      simp only [List.length_cons] at hl
      by_cases h : cnt T t ∈ found
      · obtain ⟨x', y', e⟩ := ih found (some (.int t)) (some (eP (cnt T t))) (by omega)
        refine ⟨x', y', ?_⟩
        rw [show crv T (t :: ts) found = crv T ts found by unfold crv; rw [List.foldl_cons, if_pos h]]
        rw [← e]
        simp [h]
      · obtain ⟨x', y', e⟩ := ih (found ++ [cnt T t]) (some (.int t)) (some (eP (cnt T t))) (by simp only [List.length_append, List.length_cons, List.length_nil]; omega)
        refine ⟨x', y', ?_⟩
        rw [show crv T (t :: ts) found = crv T ts (found ++ [cnt T t]) by unfold crv; rw [List.foldl_cons, if_neg h]]
        rw [← e]
        have hsz : found.length < 16777216 := by omega
        simp [h, encP, hsz]
  obtain ⟨x', y', e⟩ := loop (down 101) [] none none (by simp [down])
  have hi : iRg3 (aCons (cC (.int 100)) (aCons (cOp pSub (cC (.int 0)) (cC (.int 1))) (aCons (cOp pSub (cC (.int 0)) (cC (.int 1))) aNil))) [some (encT T), some (.list []), none, none] () = .ok ((down 101).map PyData.int, ()) := by
    unfold iRg3
    walk_at "ev"
    rw [show (0 : Int) - 1 = -1 from rfl, ← rngL_down]
    rfl
  walk_at "ev"
  unfold sFor
  rw [hi, bnd_ok]
  have e' : encP [] = .list [] := rfl
  rw [e'] at e
  rw [e]
  walk_at "ev"
  rw [crv_eq g]
end DL

/-! M3: curves as such -/
namespace DL
open PySem PySem.Spec PyProof.Rows L2
local macro_rules | `(tactic| walk_at "ev") => `(tactic| simp only [szL, Nat.reduceLeDiff, mBody, mBodyD, outP, outD, cVar, cC, cOp, cUn, cTest, cAndT, cOrT, cNotT, cAndV, cOrV, cIf, aNil, aCons, cTup, cLst, cSl, oNone, oSome, cCall, cCallF, cCallD, cMeth, noX', isL_list, isL_encP, tYesD, bnd_ok, bnd_exc, bnd_bad, lft_ok, lft_exc, lft_bad, isOk_ok, isOk_exc, isOk_bad, isD_int, isD_bool, isD_none, isD_str, isD_list, isD_tuple, isD_eP, isD_eT, isD_encP, isD_encT, allD, List.all_cons, List.all_nil, Bool.and_self, Bool.and_true, Bool.true_and, if_true, if_false, Bool.false_eq_true, ite_true, ite_false, reduceIte, List.length_cons, List.length_nil, List.map_cons, List.map_nil, List.cons_append, List.nil_append, List.replicate_succ, List.replicate_zero, List.getElem?_cons_zero, List.getElem?_cons_succ, List.set_cons_zero, List.set_cons_succ, wipeD, sSeq, sSet, sAsg, sRet, sIf, sExpr, sNil, sRaise, sSetF, sApp, sAug, sAugL, sPar, sPar3, fLst, bNm, bTup, bCons, bNil, pNot, pIsi, isiT, tyN, pNeg, Nat.reduceAdd, decide_true, decide_false, Bool.not_true, Bool.not_false, noX_ok, pLe_i, pLt_i, pGt_i, pGe_i, pAdd_i, pSub_i, pLen_l, pLen_t, pIx_t0, pIx_t1, pEq_i, pNe_i])
local macro_rules | `(tactic| walk_at "evs") => `(tactic| simp [szL, mBody, mBodyD, outP, outD, cVar, cC, cOp, cUn, cTest, cAndT, cOrT, cNotT, cAndV, cOrV, cIf, aNil, aCons, cTup, cLst, cSl, oNone, oSome, cCall, cCallF, cCallD, cMeth, noX', isL_list, isL_encP, tYesD, bnd_ok, bnd_exc, bnd_bad, lft_ok, lft_exc, lft_bad, isOk_ok, isOk_exc, isOk_bad, isD_int, isD_bool, isD_none, isD_str, isD_list, isD_tuple, isD_eP, isD_eT, isD_encP, isD_encT, allD, List.all_cons, List.all_nil, List.map_cons, List.map_nil, List.cons_append, List.nil_append, List.replicate_succ, List.replicate_zero, List.getElem?_cons_zero, List.getElem?_cons_succ, List.set_cons_zero, List.set_cons_succ, wipeD, sSeq, sSet, sAsg, sRet, sIf, sExpr, sNil, sRaise, sSetF, sApp, sAug, sAugL, sPar, sPar3, fLst, bNm, bTup, bCons, bNil, pNot, pIsi, isiT, tyN, pNeg, noX_ok, pLe_i, pLt_i, pGt_i, pGe_i, pAdd_i, pSub_i, pLen_l, pLen_t, pIx_t0, pIx_t1, pEq_i, pNe_i])
local macro_rules | `(tactic| walk_at "evx") => `(tactic| simp [szL, mBody, mBodyD, outP, outD, cVar, cC, cOp, cUn, cTest, cAndT, cOrT, cNotT, cAndV, cOrV, cIf, aNil, aCons, cTup, cLst, cSl, oNone, oSome, cCall, cCallF, cCallD, cMeth, noX', isL_list, isL_encP, tYesD, bnd_ok, bnd_exc, bnd_bad, lft_ok, lft_exc, lft_bad, isOk_ok, isOk_exc, isOk_bad, isD_int, isD_bool, isD_none, isD_str, isD_list, isD_tuple, isD_eP, isD_eT, isD_encP, isD_encT, allD, List.all_cons, List.all_nil, List.map_cons, List.map_nil, List.cons_append, List.nil_append, List.replicate_succ, List.replicate_zero, List.getElem?_cons_zero, List.getElem?_cons_succ, List.set_cons_zero, List.set_cons_succ, wipeD, sSeq, sSet, sAsg, sRet, sIf, sExpr, sNil, sRaise, sSetF, sApp, sAug, sAugL, sPar, sPar3, fLst, bNm, bTup, bCons, bNil, pNot, pIsi, isiT, tyN, pNeg, noX_ok, pLe_i, pLt_i, pGt_i, pGe_i, pAdd_i, pSub_i, pLen_l, pLen_t, pIx_t0, pIx_t1, pEq_i, pNe_i, *])
theorem sForGo_pass {d a : Type} {bd : Bd} {body : Env → d → R (Fl × d)} (enc : a → PD) (Ok : Env → Prop) (s : d) (xs : List a) (ρ : Env) (h0 : Ok ρ)
    (h : ∀ x ∈ xs, ∀ ρ, Ok ρ → ∃ ρ1 ρ2, bd (enc x) ρ = some ρ1 ∧ body ρ1 s = .ok (.nx ρ2, s) ∧ Ok ρ2) : ∃ ρ', sForGo bd body (xs.map enc) ρ s = .ok (.nx ρ', s) ∧ Ok ρ' := by
  obtain ⟨ρ', s', e, i, j⟩ := sForGo_inv (bd := bd) (body := body) enc (fun _ ρ s' => Ok ρ ∧ s' = s) xs [] ρ s ⟨h0, rfl⟩ fun p x q ρ s' hp hi => by
    obtain ⟨hi, rfl⟩ := hi
    obtain ⟨ρ1, ρ2, h1, h2, h3⟩ := h x (by rw [List.nil_append] at hp; rw [hp]; simp) ρ hi
    exact ⟨ρ1, ρ2, s', h1, h2, h3, rfl⟩
  subst j
  exact ⟨ρ', e, i⟩
/-! ### slices -/
theorem cut_1 {a : Type} (xs : List a) : cutD xs (some 1) none = xs.drop 1 := by
  unfold cutD
  rw [show HT.sIx xs.length 0 (some 1) = min 1 xs.length from HT.sIx_nat xs.length 0 1, HT.sIx_none]
  cases xs with
  | nil => rfl
  | cons x r =>
    rw [show min 1 (x :: r).length = 1 by rw [List.length_cons]; omega]
    show List.take ((x :: r).length - 1) r = r
    rw [List.length_cons, Nat.add_sub_cancel]
    exact List.take_length
theorem zipD_map {a b : Type} (e : a → PD) (f : b → PD) : ∀ (xs : List a) (ys : List b), zipD (xs.map e) (ys.map f) = (xs.zip ys).map fun p => PyData.tuple [e p.1, f p.2]
  | [], _ => by simp [zipD]
  | _ :: _, [] => by simp [zipD]
  | x :: xs, y :: ys => by simp [zipD, zipD_map e f xs ys]
/-! ### a curve -/
def Up (p q : Pt) : Prop := p.1 ≤ q.1 ∧ p.2 ≤ q.2 ∧ p ≠ q
structure CrvOk (P : List Pt) : Prop where
  l2 : 2 ≤ P.length
  l13 : P.length ≤ 13
  hd : P.head? = some (0, 0)
  rng : ∀ p ∈ P, 0 ≤ p.1 ∧ p.1 ≤ 12 ∧ 0 ≤ p.2 ∧ p.2 ≤ 12
  up : P.Pairwise Up
  last : ∀ p, P.getLast? = some p → p.1 + p.2 ≤ 12
theorem zip_tail_mem {a : Type} {Rr : a → a → Prop} : ∀ {l : List a}, l.Pairwise Rr → ∀ p ∈ l.zip (l.drop 1), Rr p.1 p.2
  | [], _, p, h => by simp at h
  | [x], _, p, h => by simp at h
  | x :: y :: l, hp, p, h => by
    have hp' := List.pairwise_cons.mp hp
    rw [show (x :: y :: l).drop 1 = y :: l from rfl, List.zip_cons_cons] at h
    rcases List.mem_cons.mp h with e | e
    · rw [e]; exact hp'.1 y (by simp)
    · exact zip_tail_mem hp'.2 p e
theorem atI_last_map {a : Type} (e : a → PD) (l : List a) (x : a) (h : l.getLast? = some x) : L2.atI (l.map e) (-1) = some (e x) := by
  have hn : l ≠ [] := fun z => by rw [z] at h; cases h
  have hl : 0 < l.length := List.length_pos_iff.mpr hn
  unfold L2.atI ixN
  rw [if_neg (by decide), List.length_map, if_pos (by omega)]
  show (l.map e)[(-1 + (l.length : Int)).toNat]? = _
  rw [List.getElem?_map, show (-1 + (l.length : Int)).toNat = l.length - 1 by omega, ← List.getLast?_eq_getElem?, h]
  rfl
theorem atI_nat_map {a : Type} (e : a → PD) (l : List a) (i : Nat) (x : a) (h : l[i]? = some x) : L2.atI (l.map e) (i : Int) = some (e x) := by
  have hl : i < l.length := (List.getElem?_eq_some_iff.mp h).1
  unfold L2.atI ixN
  rw [if_pos (by omega), List.length_map, if_pos (by omega)]
  show (l.map e)[(i : Int).toNat]? = _
  rw [List.getElem?_map, Int.toNat_natCast, h]
  rfl
theorem pIx_last {a : Type} (e : a → PD) (l : List a) (x : a) (h : l.getLast? = some x) : pIx (.list (l.map e)) (.int (-1)) = .ok (e x) := by
  show (match L2.atI (l.map e) (-1) with | some d => R.ok d | none => R.bad) = _
  rw [atI_last_map e l x h]
theorem pIx_nat {a : Type} (e : a → PD) (l : List a) (i : Nat) (x : a) (h : l[i]? = some x) : pIx (.list (l.map e)) (.int (i : Int)) = .ok (e x) := by
  show (match L2.atI (l.map e) (i : Int) with | some d => R.ok d | none => R.bad) = _
  rw [atI_nat_map e l i x h]
theorem pIx_head {a : Type} (e : a → PD) (l : List a) (x : a) (h : l.head? = some x) : pIx (.list (l.map e)) (.int 0) = .ok (e x) := by
  have := pIx_nat e l 0 x (by rw [List.head?_eq_getElem?] at h; exact h)
  exact this
theorem eP_0 (p : Pt) : pIx (eP p) (.int 0) = .ok (.int p.1) := pIx_t0 _ _
theorem eP_1 (p : Pt) : pIx (eP p) (.int 1) = .ok (.int p.2) := pIx_t1 _ _ _
theorem isi_tup_eP (p : Pt) : isiT "tuple" (eP p) = true := rfl
theorem len_eP (p : Pt) : pLen [eP p] = .ok (.int 2) := rfl
theorem ev_seq {d : Type} {f g : Env → d → R (Fl × d)} {ρ ρ' : Env} {s s' : d} {r : R (Fl × d)} (h : f ρ s = .ok (.nx ρ', s')) (k : g ρ' s' = r) : sSeq f g ρ s = r := by
  unfold sSeq
  rw [h]
  exact k
theorem ev_seq_rt {d : Type} {f g : Env → d → R (Fl × d)} {ρ : Env} {s s' : d} {v : PD} (h : f ρ s = .ok (.rt v, s')) : sSeq f g ρ s = .ok (.rt v, s') := by
  unfold sSeq
  rw [h]
theorem ev_if {d : Type} {t : Env → d → R (Bool × d)} {f g : Env → d → R (Fl × d)} {ρ : Env} {s s' : d} {b : Bool} {r : R (Fl × d)} (h : t ρ s = .ok (b, s')) (k : (if b = true then f ρ s' else g ρ s') = r) : sIf t f g ρ s = r := by
  unfold sIf
  rw [h, bnd_ok]
  exact k
theorem ev_if_f {d : Type} {t : Env → d → R (Bool × d)} {f g : Env → d → R (Fl × d)} {ρ : Env} {s s' : d} {r : R (Fl × d)} (h : t ρ s = .ok (false, s')) (k : g ρ s' = r) : sIf t f g ρ s = r := by
  unfold sIf
  rw [h, bnd_ok]
  exact k
theorem ev_if_t {d : Type} {t : Env → d → R (Bool × d)} {f g : Env → d → R (Fl × d)} {ρ : Env} {s s' : d} {r : R (Fl × d)} (h : t ρ s = .ok (true, s')) (k : f ρ s' = r) : sIf t f g ρ s = r := by
  unfold sIf
  rw [h, bnd_ok]
  exact k
theorem ev_or_f {d : Type} {t u : Env → d → R (Bool × d)} {ρ : Env} {s s' : d} {r : R (Bool × d)} (h : t ρ s = .ok (false, s')) (k : u ρ s' = r) : cOrT t u ρ s = r := by
  unfold cOrT
  rw [h, bnd_ok]
  exact k
theorem ev_and_t {d : Type} {t u : Env → d → R (Bool × d)} {ρ : Env} {s s' : d} {r : R (Bool × d)} (h : t ρ s = .ok (true, s')) (k : u ρ s' = r) : cAndT t u ρ s = r := by
  unfold cAndT
  rw [h, bnd_ok]
  exact k
theorem ev_not {d : Type} {t : Env → d → R (Bool × d)} {ρ : Env} {s s' : d} {b : Bool} (h : t ρ s = .ok (b, s')) : cNotT t ρ s = .ok (!b, s') := by
  unfold cNotT
  rw [h, bnd_ok]
theorem ev_test {d : Type} {e : Env → d → R (PD × d)} {ρ : Env} {s s' : d} {b : Bool} (h : e ρ s = .ok (.bool b, s')) : cTest e ρ s = .ok (b, s') := by
  unfold cTest
  rw [h]
  rfl
theorem ev_for {d : Type} {it : Env → d → R (List PD × d)} {bd : Bd} {body : Env → d → R (Fl × d)} {ρ : Env} {s s' : d} {xs : List PD} {r : R (Fl × d)} (hi : it ρ s = .ok (xs, s')) (h : sForGo bd body xs ρ s' = r) : sFor it bd body ρ s = r := by
  unfold sFor
  rw [hi, bnd_ok]
  exact h
theorem ev_for_pass {d a : Type} {it : Env → d → R (List PD × d)} {bd : Bd} {body g : Env → d → R (Fl × d)} {ρ : Env} {s : d} {r : R (Fl × d)} (xs : List a) (enc : a → PD) (Ok : Env → Prop) (hi : it ρ s = .ok (xs.map enc, s)) (h0 : Ok ρ)
    (h : ∀ x ∈ xs, ∀ ρ, Ok ρ → ∃ ρ1 ρ2, bd (enc x) ρ = some ρ1 ∧ body ρ1 s = .ok (.nx ρ2, s) ∧ Ok ρ2) (k : ∀ ρ', Ok ρ' → g ρ' s = r) : sSeq (sFor it bd body) g ρ s = r := by
  obtain ⟨ρ', e, o⟩ := sForGo_pass enc Ok s xs ρ h0 h
  exact ev_seq (ev_for hi e) (k ρ' o)
theorem mBody_of {n : Nat} {f : Env → Unit → R (Fl × Unit)} {ds : List PD} {v : PD} (h : f (ds.map some ++ List.replicate n none) () = .ok (.rt v, ())) : mBody n f ds = .ok v := by
  unfold mBody
  rw [h]
  rfl
theorem ret_of {d : Type} {e : Env → d → R (PD × d)} {ρ : Env} {s s' : d} {v : PD} (h : e ρ s = .ok (v, s')) (hv : isD v = true) : sRet e ρ s = .ok (.rt v, s') := by
  unfold sRet
  rw [h, bnd_ok]
theorem ev_op {d : Type} {f : PD → PD → R PD} {a b : Env → d → R (PD × d)} {ρ : Env} {s s1 s2 : d} {x y z : PD} (ha : a ρ s = .ok (x, s1)) (hb : b ρ s1 = .ok (y, s2)) (hf : f x y = .ok z) (hx : isD x = true := by rfl) (hy : isD y = true := by rfl) : cOp f a b ρ s = .ok (z, s2) := by
  unfold cOp
  rw [ha, bnd_ok, hb, bnd_ok, hx, hy, hf]
  rfl
theorem ev_a1 {d : Type} {a : Env → d → R (PD × d)} {ρ : Env} {s s1 : d} {x : PD} (ha : a ρ s = .ok (x, s1)) : aCons a aNil ρ s = .ok ([x], s1) := by
  unfold aCons aNil
  rw [ha]
  rfl
theorem ev_aC {d : Type} {a : Env → d → R (PD × d)} {as : Env → d → R (List PD × d)} {ρ : Env} {s s1 s2 : d} {x : PD} {xs : List PD} (ha : a ρ s = .ok (x, s1)) (has : as ρ s1 = .ok (xs, s2)) : aCons a as ρ s = .ok (x :: xs, s2) := by
  unfold aCons
  rw [ha, bnd_ok, has]
  rfl
theorem ev_callF {d : Type} {n : Nat} {m : List PD → R PD} {as : Env → d → R (List PD × d)} {ρ : Env} {s s1 : d} {xs : List PD} {v : PD} (ha : as ρ s = .ok (xs, s1)) (hm : m xs = .ok v) (hn : xs.length = n := by rfl) : cCallF n m as ρ s = .ok (v, s1) := by
  unfold cCallF
  rw [ha, bnd_ok, if_pos hn, hm]
  rfl
theorem ev_call {d : Type} {m : List PD → R PD} {as : Env → d → R (List PD × d)} {ρ : Env} {s s1 : d} {xs : List PD} {v : PD} (ha : as ρ s = .ok (xs, s1)) (hm : m xs = .ok v) (hd : allD xs = true := by rfl) : cCall m as ρ s = .ok (v, s1) := by
  unfold cCall
  rw [ha, bnd_ok, hd, hm]
  rfl
theorem ev_callD {n : Nat} {m : List PD → Dr → R (PD × Dr)} {as : Env → Dr → R (List PD × Dr)} {ρ : Env} {s s1 s2 : Dr} {xs : List PD} {v : PD} (ha : as ρ s = .ok (xs, s1)) (hm : m xs s1 = .ok (v, s2)) (hn : xs.length = n := by rfl) : cCallD n m as ρ s = .ok (v, s2) := by
  unfold cCallD
  rw [ha, bnd_ok, if_pos hn, hm]
  rfl
theorem ev_set {d : Type} {i : Nat} {e : Env → d → R (PD × d)} {ρ : Env} {s s1 : d} {v : PD} (h : e ρ s = .ok (v, s1)) : sSet i e ρ s = .ok (.nx (ρ.set i (some v)), s1) := by
  unfold sSet
  rw [h]
  rfl
theorem ev_exp {d : Type} {e : Env → d → R (PD × d)} {ρ : Env} {s s1 : d} {v : PD} (h : e ρ s = .ok (v, s1)) : sExpr e ρ s = .ok (.nx ρ, s1) := by
  unfold sExpr
  rw [h]
  rfl
theorem ev_and {d : Type} {a b : Env → d → R (PD × d)} {ρ : Env} {s s1 : d} {r : R (PD × d)} (ha : a ρ s = .ok (.bool true, s1)) (hb : b ρ s1 = r) : cAndV a b ρ s = r := by
  unfold cAndV
  rw [ha, bnd_ok]
  exact hb
theorem ev_un {d : Type} {f : PD → R PD} {a : Env → d → R (PD × d)} {ρ : Env} {s s1 : d} {x v : PD} (ha : a ρ s = .ok (x, s1)) (hf : f x = .ok v) (hx : isD x = true := by rfl) : cUn f a ρ s = .ok (v, s1) := by
  unfold cUn
  rw [ha, bnd_ok, hx, hf]
  rfl
theorem m_is_points_eq {P : List Pt} (g : CrvOk P) : m_is_points [encP P] = .ok (.bool true) := by
  refine mBody_of ?_
  unfold b_is_points
  obtain ⟨last, hlast⟩ : ∃ p, P.getLast? = some p := by
    cases h : P.getLast? with
    | none => rw [List.getLast?_eq_none_iff] at h; have := g.l2; rw [h] at this; simp at this
    | some p => exact ⟨p, rfl⟩
  have h2 := g.l2
  have h13 := g.l13
  have e1 : decide ((2 : Int) ≤ (P.length : Int)) = true := decide_eq_true (by omega)
  have e2 : decide ((P.length : Int) ≤ 13) = true := decide_eq_true (by omega)
  have hhd : pIx (encP P) (.int 0) = .ok (eP (0, 0)) := pIx_head eP P _ g.hd
  refine ev_seq (ρ' := [some (encP P), none, none, none, none]) (s' := ()) (ev_if_f (ev_or_f (s' := ()) rfl (ev_or_f (s' := ()) (ev_not (b := true) (ev_test ?_)) (ev_test ?_))) rfl) ?_
  · rw [chain_le (d := Unit) _ _ _ _ () 2 P.length 13 rfl (by unfold encP; walk_at "ev"; rw [List.length_map]) rfl, e1, e2]; rfl
  · walk_at "ev"
    rw [hhd]
    walk_at "ev"
    rw [show PyData.tuple [.int 0, .int 0] = eP (0, 0) from rfl, pNe_eP]
    rfl
  refine ev_for_pass P eP (fun ρ => ∃ a b c d, ρ = [some (encP P), a, b, c, d]) rfl ⟨none, none, none, none, rfl⟩ ?_ ?_
  · rintro p hp _ ⟨a, b, c, d, rfl⟩
    refine ⟨[some (encP P), some (eP p), b, c, d], [some (encP P), some (eP p), b, c, d], rfl, ?_, ⟨_, _, _, _, rfl⟩⟩
    obtain ⟨k1, k2, k3, k4⟩ := g.rng p hp
    refine ev_if_f (s' := ()) (ev_or_f (s' := ()) rfl (ev_or_f (s' := ()) rfl (ev_not (b := true) (ev_test ?_)))) rfl
    walk_at "ev"
    rw [cComp_map [p.1, p.2] PyData.int (fun _ => .bool true)]
    · rfl
    · rfl
    · simp
    · intro x hx
      refine ⟨_, rfl, ?_, rfl⟩
      have hx' : 0 ≤ x ∧ x ≤ 12 := by
        simp only [List.mem_cons, List.not_mem_nil, or_false] at hx
        rcases hx with rfl | rfl
        · exact ⟨k1, k2⟩
        · exact ⟨k3, k4⟩
      walk_at "ev"
      rw [m_is_int_int, decide_eq_true hx'.1, decide_eq_true hx'.2]
      rfl
  rintro _ ⟨a, b, c, d, rfl⟩
  refine ev_for_pass (P.zip (P.drop 1)) (fun p => .tuple [eP p.1, eP p.2]) (fun ρ => ∃ a b c d, ρ = [some (encP P), a, b, c, d]) ?_ ⟨a, b, c, d, rfl⟩ ?_ ?_
  · rw [← zipD_map, List.map_drop, ← cut_1]
    rfl
  · rintro p hp _ ⟨a, b, c, d, rfl⟩
    obtain ⟨u1, u2, u3⟩ := zip_tail_mem g.up p hp
    refine ⟨[some (encP P), a, some (eP p.1), some (eP p.2), d], _, rfl, ev_if_f (s' := ()) (ev_or_f (s' := ()) (ev_test ?_) (ev_or_f (s' := ()) (ev_test ?_) (ev_test ?_))) rfl, ⟨_, _, _, _, rfl⟩⟩
    · walk_at "ev"
      rw [eP_0, eP_0]
      walk_at "ev"
      rw [decide_eq_false (by omega)]
    · walk_at "ev"
      rw [eP_1, eP_1]
      walk_at "ev"
      rw [decide_eq_false (by omega)]
    · walk_at "ev"
      rw [pEq_eP, decide_eq_false u3]
      rfl
  rintro _ ⟨a, b, c, d, rfl⟩
  refine ret_of ?_ rfl
  walk_at "ev"
  rw [show pIx (encP P) (.int (-1)) = .ok (eP last) from pIx_last eP P last hlast]
  walk_at "ev"
  rw [show pSum [eP last] = .ok (.int (last.1 + last.2)) from by simp [pSum, eP, toInts]]
  walk_at "ev"
  rw [decide_eq_true (g.last last hlast)]
end DL

/-! M4: draws; the curve is a curve -/
namespace DL
open PySem PySem.Spec PyProof.Rows L2
local macro_rules | `(tactic| walk_at "ev") => `(tactic| simp only [szL, Nat.reduceLeDiff, mBody, mBodyD, outP, outD, cVar, cC, cOp, cUn, cTest, cAndT, cOrT, cNotT, cAndV, cOrV, cIf, aNil, aCons, cTup, cLst, cSl, oNone, oSome, cCall, cCallF, cCallD, cMeth, noX', isL_list, isL_encP, tYesD, bnd_ok, bnd_exc, bnd_bad, lft_ok, lft_exc, lft_bad, isOk_ok, isOk_exc, isOk_bad, isD_int, isD_bool, isD_none, isD_str, isD_list, isD_tuple, isD_eP, isD_eT, isD_encP, isD_encT, allD, List.all_cons, List.all_nil, Bool.and_self, Bool.and_true, Bool.true_and, if_true, if_false, Bool.false_eq_true, ite_true, ite_false, reduceIte, List.length_cons, List.length_nil, List.map_cons, List.map_nil, List.cons_append, List.nil_append, List.replicate_succ, List.replicate_zero, List.getElem?_cons_zero, List.getElem?_cons_succ, List.set_cons_zero, List.set_cons_succ, wipeD, sSeq, sSet, sAsg, sRet, sIf, sExpr, sNil, sRaise, sSetF, sApp, sAug, sAugL, sPar, sPar3, fLst, bNm, bTup, bCons, bNil, pNot, pIsi, isiT, tyN, pNeg, Nat.reduceAdd, decide_true, decide_false, Bool.not_true, Bool.not_false, noX_ok, pLe_i, pLt_i, pGt_i, pGe_i, pAdd_i, pSub_i, pLen_l, pLen_t, pIx_t0, pIx_t1, pEq_i, pNe_i])
local macro_rules | `(tactic| walk_at "evs") => `(tactic| simp [szL, mBody, mBodyD, outP, outD, cVar, cC, cOp, cUn, cTest, cAndT, cOrT, cNotT, cAndV, cOrV, cIf, aNil, aCons, cTup, cLst, cSl, oNone, oSome, cCall, cCallF, cCallD, cMeth, noX', isL_list, isL_encP, tYesD, bnd_ok, bnd_exc, bnd_bad, lft_ok, lft_exc, lft_bad, isOk_ok, isOk_exc, isOk_bad, isD_int, isD_bool, isD_none, isD_str, isD_list, isD_tuple, isD_eP, isD_eT, isD_encP, isD_encT, allD, List.all_cons, List.all_nil, List.map_cons, List.map_nil, List.cons_append, List.nil_append, List.replicate_succ, List.replicate_zero, List.getElem?_cons_zero, List.getElem?_cons_succ, List.set_cons_zero, List.set_cons_succ, wipeD, sSeq, sSet, sAsg, sRet, sIf, sExpr, sNil, sRaise, sSetF, sApp, sAug, sAugL, sPar, sPar3, fLst, bNm, bTup, bCons, bNil, pNot, pIsi, isiT, tyN, pNeg, noX_ok, pLe_i, pLt_i, pGt_i, pGe_i, pAdd_i, pSub_i, pLen_l, pLen_t, pIx_t0, pIx_t1, pEq_i, pNe_i])
local macro_rules | `(tactic| walk_at "evx") => `(tactic| simp [szL, mBody, mBodyD, outP, outD, cVar, cC, cOp, cUn, cTest, cAndT, cOrT, cNotT, cAndV, cOrV, cIf, aNil, aCons, cTup, cLst, cSl, oNone, oSome, cCall, cCallF, cCallD, cMeth, noX', isL_list, isL_encP, tYesD, bnd_ok, bnd_exc, bnd_bad, lft_ok, lft_exc, lft_bad, isOk_ok, isOk_exc, isOk_bad, isD_int, isD_bool, isD_none, isD_str, isD_list, isD_tuple, isD_eP, isD_eT, isD_encP, isD_encT, allD, List.all_cons, List.all_nil, List.map_cons, List.map_nil, List.cons_append, List.nil_append, List.replicate_succ, List.replicate_zero, List.getElem?_cons_zero, List.getElem?_cons_succ, List.set_cons_zero, List.set_cons_succ, wipeD, sSeq, sSet, sAsg, sRet, sIf, sExpr, sNil, sRaise, sSetF, sApp, sAug, sAugL, sPar, sPar3, fLst, bNm, bTup, bCons, bNil, pNot, pIsi, isiT, tyN, pNeg, noX_ok, pLe_i, pLt_i, pGt_i, pGe_i, pAdd_i, pSub_i, pLen_l, pLen_t, pIx_t0, pIx_t1, pEq_i, pNe_i, *])
def Live (s : Dr) : Prop := 0 < s.1.length
theorem draw_ev {lim : Int} (h1 : 0 < lim) (h2 : lim < 1073741824) {s : Dr} (hs : Live s) : ∃ x s', m__law_draw [tokD 0, .int lim] s = .ok (.int x, s') ∧ 0 ≤ x ∧ x < lim ∧ Live s' := by
  refine ⟨(drawM lim s).1, (drawM lim s).2, ?_, (drawM_range h1 s).1, (drawM_range h1 s).2, ?_⟩
  · show (if 0 < lim ∧ lim < 1073741824 ∧ 0 < s.1.length then _ else _) = _
    rw [if_pos ⟨h1, h2, hs⟩]
  · unfold Live
    rw [drawM_len]
    exact hs
theorem pick_ev {cs : List PD} (h1 : 0 < cs.length) (h2 : cs.length < 1000) {s : Dr} (hs : Live s) : ∃ c s', m__law_pick [tokD 0, .list cs] s = .ok (c, s') ∧ c ∈ cs ∧ Live s' := by
  obtain ⟨x, s', e, l, u, v⟩ := draw_ev (lim := (cs.length : Int)) (by omega) (by omega) hs
  have hx : x.toNat < cs.length := by omega
  refine ⟨cs[x.toNat], s', ?_, List.getElem_mem hx, v⟩
  unfold m__law_pick b__law_pick
  walk_at "ev"
  rw [e]
  walk_at "ev"
  have := pIx_nat (fun d : PD => d) cs x.toNat cs[x.toNat] (List.getElem?_eq_getElem hx)
  rw [List.map_id', Int.toNat_of_nonneg l] at this
  rw [this]
  rfl
theorem rngL_01 (n : Nat) : rngL 0 1 n = ((List.range n).map fun (i : Nat) => (i : Int)).map PyData.int := by
  unfold rngL
  rw [List.map_map]
  apply List.map_congr_left
  intro i _
  show PyData.int (0 + (i : Int) * 1) = PyData.int (i : Int)
  congr 1; omega
theorem in62_ok {j : Int} (h1 : -1000000 ≤ j) (h2 : j ≤ 1000000) : in62 j = true := by
  unfold in62
  rw [Bool.and_eq_true, decide_eq_true_eq, decide_eq_true_eq]
  constructor <;> omega
theorem list_map_of {a : Type} (e : a → PD) (Q : a → Prop) : ∀ ys : List PD, (∀ y ∈ ys, ∃ x, y = e x ∧ Q x) → ∃ xs : List a, ys = xs.map e ∧ ∀ x ∈ xs, Q x
  | [], _ => ⟨[], rfl, fun x h => by cases h⟩
  | y :: ys, h => by
    obtain ⟨x, rfl, q⟩ := h y (by simp)
    obtain ⟨xs, rfl, qs⟩ := list_map_of e Q ys fun z hz => h z (List.mem_cons_of_mem _ hz)
    exact ⟨x :: xs, rfl, fun z hz => by
      rcases List.mem_cons.mp hz with e | e
      · rw [e]; exact q
      · exact qs z e⟩
theorem things_ev {most : Int} (h1 : 1 ≤ most) (h2 : most ≤ 12) {s : Dr} (hs : Live s) : ∃ T s', m__law_things [tokD 0, .int most] s = .ok (encT T, s') ∧ GoodT T ∧ (T.length : Int) ≤ most ∧ Live s' := by
  obtain ⟨c, s1, e1, m1, v1⟩ := pick_ev (cs := [.int 2, .int 5, .int 12, .int 100]) (by decide) (by decide) hs
  obtain ⟨wide, rfl, w1, w2⟩ : ∃ w, c = .int w ∧ 2 ≤ w ∧ w ≤ 100 := by
    simp only [List.mem_cons, List.not_mem_nil, or_false] at m1
    rcases m1 with rfl | rfl | rfl | rfl
    · exact ⟨2, rfl, by decide, by decide⟩
    · exact ⟨5, rfl, by decide, by decide⟩
    · exact ⟨12, rfl, by decide, by decide⟩
    · exact ⟨100, rfl, by decide, by decide⟩
  obtain ⟨n, s2, e2, n1, n2, v2⟩ := draw_ev (lim := most) (by omega) (by omega) v1
  have key := compGo_eff (b := bNm 3) (own := [3]) (f := cTup (aCons (cCallD 2 m__law_draw (aCons (cVar 0) (aCons (cVar 2) aNil))) (aCons (cOp pEq (cCallD 2 m__law_draw (aCons (cVar 0) (aCons (cC (.int 2)) aNil))) (cC (.int 0))) aNil)))
    (ρ := [some (tokD 0), some (.int most), some (.int wide), none]) PyData.int Live (fun y => ∃ x : Th, y = eT x ∧ 0 ≤ x.1 ∧ x.1 ≤ 99) ((List.range (1 + n).toNat).map fun (i : Nat) => (i : Int)) s2 v2 fun x _ s hs => by
      obtain ⟨a, t1, f1, a1, a2, g1⟩ := draw_ev (lim := wide) (by omega) (by omega) hs
      obtain ⟨b, t2, f2, b1, b2, g2⟩ := draw_ev (lim := 2) (by omega) (by omega) g1
      refine ⟨[some (tokD 0), some (.int most), some (.int wide), some (.int x)], eT (a, decide (b = 0)), t2, rfl, ?_, rfl, ⟨_, rfl, a1, by show a ≤ 99; omega⟩, g2⟩
      walk_at "ev"
      rw [f1]
      walk_at "ev"
      rw [f2]
      walk_at "ev"
      rfl
  obtain ⟨ys, s3, e3, l3, p3, v3⟩ := key
  obtain ⟨T, rfl, q⟩ := list_map_of eT (fun x => 0 ≤ x.1 ∧ x.1 ≤ 99) ys p3
  simp only [List.length_map, List.length_range] at l3
  refine ⟨T, s3, ?_, ⟨by omega, by omega, q⟩, by omega, v3⟩
  unfold m__law_things b__law_things
  walk_at "ev"
  rw [e1]
  walk_at "ev"
  unfold cComp iRg1
  walk_at "ev"
  rw [e2]
  walk_at "ev"
  rw [if_pos (in62_ok (by omega) (by omega)), bnd_ok, if_pos (by simp [rngL]; omega), rngL_01, e3]
  rfl
theorem pts_head (T : List Th) : (pts T).head? = some (0, 0) := rfl
theorem pts_len (T : List Th) : (pts T).length = (scs T).length + 1 := by simp [pts]
theorem al_bound (T : List Th) (t : Int) : 0 ≤ al T t ∧ al T t ≤ T.length := by
  unfold al
  have := List.length_filter_le (fun x : Th => decide (t ≤ x.1)) T
  omega
theorem fa_nn (T : List Th) (t : Int) : 0 ≤ fa T t := by unfold fa; omega
theorem tr_nn (T : List Th) (t : Int) : 0 ≤ tr T t := by unfold tr; omega
theorem up_cnt (T : List Th) {s t : Int} (h : s < t) (m : s ∈ scs T) : Up (cnt T t) (cnt T s) := by
  refine ⟨fa_mono T (by omega), tr_mono T (by omega), fun e => ?_⟩
  have h1 := al_lt T h m
  rw [← al_sum, ← al_sum] at h1
  have e1 : fa T t = fa T s := congrArg Prod.fst e
  have e2 : tr T t = tr T s := congrArg Prod.snd e
  omega
theorem pts_up {T : List Th} (g : GoodT T) : (pts T).Pairwise Up := by
  unfold pts
  refine List.pairwise_cons.mpr ⟨fun p hp => ?_, ?_⟩
  · obtain ⟨t, ht, rfl⟩ := List.mem_map.mp hp
    rw [← cnt_top g (t := 100) (Int.le_refl _)]
    obtain ⟨x, hx, rfl⟩ := mem_scs.mp ht
    have := g.sc x hx
    exact up_cnt T (by omega) ht
  · rw [List.pairwise_map]
    exact List.Pairwise.imp_of_mem (fun {a b} ha hb hab => up_cnt T hab hb) (scs_gt T)
theorem cnt_low {T : List Th} {s t : Int} (h : ∀ x ∈ T, s ≤ x.1) (hst : t ≤ s) : cnt T t = cnt T s := by
  unfold cnt fa tr
  have e1 : (T.filter fun x => decide (t ≤ x.1) && !x.2) = T.filter fun x => decide (s ≤ x.1) && !x.2 := List.filter_congr fun x m => by
    have := h x m
    rw [decide_eq_true (by omega), decide_eq_true (by omega)]
  have e2 : (T.filter fun x => decide (t ≤ x.1) && x.2) = T.filter fun x => decide (s ≤ x.1) && x.2 := List.filter_congr fun x m => by
    have := h x m
    rw [decide_eq_true (by omega), decide_eq_true (by omega)]
  rw [e1, e2]
theorem scs_ne {T : List Th} (g : GoodT T) : scs T ≠ [] := fun e => by
  cases T with
  | nil => have := g.l1; simp at this
  | cons x T =>
    have : x.1 ∈ scs (x :: T) := mem_scs.mpr ⟨x, by simp, rfl⟩
    rw [e] at this
    cases this
theorem scs_last {T : List Th} (g : GoodT T) : ∃ s, (scs T).getLast? = some s ∧ s ∈ scs T ∧ ∀ x ∈ T, s ≤ x.1 := by
  have hn := scs_ne g
  refine ⟨(scs T).getLast hn, List.getLast?_eq_some_getLast hn, List.getLast_mem hn, fun x hx => ?_⟩
  have hm : x.1 ∈ scs T := mem_scs.mpr ⟨x, hx, rfl⟩
  have hp := scs_gt T
  rw [← List.dropLast_concat_getLast hn] at hm hp
  rw [List.pairwise_append] at hp
  rcases List.mem_append.mp hm with z | z
  · have := hp.2.2 _ z ((scs T).getLast hn) (by simp)
    omega
  · simp only [List.mem_cons, List.not_mem_nil, or_false] at z
    omega
theorem pts_last {T : List Th} (g : GoodT T) : (pts T).getLast? = some (cnt T 0) := by
  obtain ⟨s, h1, h2, h3⟩ := scs_last g
  obtain ⟨x, hx, e⟩ := mem_scs.mp h2
  have := g.sc x hx
  rw [cnt_low h3 (t := 0) (by omega)]
  unfold pts
  rw [List.getLast?_cons, List.getLast?_map, h1]
  rfl
theorem cnt_rng {T : List Th} (g : GoodT T) (t : Int) : 0 ≤ (cnt T t).1 ∧ 0 ≤ (cnt T t).2 ∧ (cnt T t).1 + (cnt T t).2 ≤ 12 := by
  refine ⟨fa_nn T t, tr_nn T t, ?_⟩
  show fa T t + tr T t ≤ 12
  rw [al_sum]
  have := al_bound T t
  have := g.l2
  omega
theorem pts_rng {T : List Th} (g : GoodT T) : ∀ p ∈ pts T, 0 ≤ p.1 ∧ 0 ≤ p.2 ∧ p.1 + p.2 ≤ 12 := fun p hp => by
  rcases List.mem_cons.mp hp with e | e
  · subst e; decide
  · obtain ⟨t, _, rfl⟩ := List.mem_map.mp e
    exact cnt_rng g t
theorem pts_ok {T : List Th} (g : GoodT T) : CrvOk (pts T) := by
  have h1 := scs_len T
  have h2 : 0 < (scs T).length := List.length_pos_iff.mpr (scs_ne g)
  have h3 := g.l2
  refine ⟨by rw [pts_len]; omega, by rw [pts_len]; omega, rfl, fun p hp => ?_, pts_up g, fun p hp => ?_⟩
  · have := pts_rng g p hp
    omega
  · exact (pts_rng g p (List.mem_of_getLast? hp)).2.2
end DL

/-! M5: thresholds_for, most_true, least_false -/
namespace DL
open PySem PySem.Spec PyProof.Rows L2
local macro_rules | `(tactic| walk_at "ev") => `(tactic| simp only [szL, Nat.reduceLeDiff, mBody, mBodyD, outP, outD, cVar, cC, cOp, cUn, cTest, cAndT, cOrT, cNotT, cAndV, cOrV, cIf, aNil, aCons, cTup, cLst, cSl, oNone, oSome, cCall, cCallF, cCallD, cMeth, noX', isL_list, isL_encP, tYesD, bnd_ok, bnd_exc, bnd_bad, lft_ok, lft_exc, lft_bad, isOk_ok, isOk_exc, isOk_bad, isD_int, isD_bool, isD_none, isD_str, isD_list, isD_tuple, isD_eP, isD_eT, isD_encP, isD_encT, allD, List.all_cons, List.all_nil, Bool.and_self, Bool.and_true, Bool.true_and, if_true, if_false, Bool.false_eq_true, ite_true, ite_false, reduceIte, List.length_cons, List.length_nil, List.map_cons, List.map_nil, List.cons_append, List.nil_append, List.replicate_succ, List.replicate_zero, List.getElem?_cons_zero, List.getElem?_cons_succ, List.set_cons_zero, List.set_cons_succ, wipeD, sSeq, sSet, sAsg, sRet, sIf, sExpr, sNil, sRaise, sSetF, sApp, sAug, sAugL, sPar, sPar3, fLst, bNm, bTup, bCons, bNil, pNot, pIsi, isiT, tyN, pNeg, Nat.reduceAdd, decide_true, decide_false, Bool.not_true, Bool.not_false, noX_ok, pLe_i, pLt_i, pGt_i, pGe_i, pAdd_i, pSub_i, pLen_l, pLen_t, pIx_t0, pIx_t1, pEq_i, pNe_i])
local macro_rules | `(tactic| walk_at "evs") => `(tactic| simp [szL, mBody, mBodyD, outP, outD, cVar, cC, cOp, cUn, cTest, cAndT, cOrT, cNotT, cAndV, cOrV, cIf, aNil, aCons, cTup, cLst, cSl, oNone, oSome, cCall, cCallF, cCallD, cMeth, noX', isL_list, isL_encP, tYesD, bnd_ok, bnd_exc, bnd_bad, lft_ok, lft_exc, lft_bad, isOk_ok, isOk_exc, isOk_bad, isD_int, isD_bool, isD_none, isD_str, isD_list, isD_tuple, isD_eP, isD_eT, isD_encP, isD_encT, allD, List.all_cons, List.all_nil, List.map_cons, List.map_nil, List.cons_append, List.nil_append, List.replicate_succ, List.replicate_zero, List.getElem?_cons_zero, List.getElem?_cons_succ, List.set_cons_zero, List.set_cons_succ, wipeD, sSeq, sSet, sAsg, sRet, sIf, sExpr, sNil, sRaise, sSetF, sApp, sAug, sAugL, sPar, sPar3, fLst, bNm, bTup, bCons, bNil, pNot, pIsi, isiT, tyN, pNeg, noX_ok, pLe_i, pLt_i, pGt_i, pGe_i, pAdd_i, pSub_i, pLen_l, pLen_t, pIx_t0, pIx_t1, pEq_i, pNe_i])
local macro_rules | `(tactic| walk_at "evx") => `(tactic| simp [szL, mBody, mBodyD, outP, outD, cVar, cC, cOp, cUn, cTest, cAndT, cOrT, cNotT, cAndV, cOrV, cIf, aNil, aCons, cTup, cLst, cSl, oNone, oSome, cCall, cCallF, cCallD, cMeth, noX', isL_list, isL_encP, tYesD, bnd_ok, bnd_exc, bnd_bad, lft_ok, lft_exc, lft_bad, isOk_ok, isOk_exc, isOk_bad, isD_int, isD_bool, isD_none, isD_str, isD_list, isD_tuple, isD_eP, isD_eT, isD_encP, isD_encT, allD, List.all_cons, List.all_nil, List.map_cons, List.map_nil, List.cons_append, List.nil_append, List.replicate_succ, List.replicate_zero, List.getElem?_cons_zero, List.getElem?_cons_succ, List.set_cons_zero, List.set_cons_succ, wipeD, sSeq, sSet, sAsg, sRet, sIf, sExpr, sNil, sRaise, sSetF, sApp, sAug, sAugL, sPar, sPar3, fLst, bNm, bTup, bCons, bNil, pNot, pIsi, isiT, tyN, pNeg, noX_ok, pLe_i, pLt_i, pGt_i, pGe_i, pAdd_i, pSub_i, pLen_l, pLen_t, pIx_t0, pIx_t1, pEq_i, pNe_i, *])
theorem cTest_ok {d : Type} {e : Env → d → R (PD × d)} {ρ : Env} {s s' : d} {b : Bool} (h : e ρ s = .ok (.bool b, s')) : cTest e ρ s = .ok (b, s') := ev_test h
def up (n : Nat) : List Int := (List.range n).map fun (i : Nat) => (i : Int)
theorem up_len (n : Nat) : (up n).length = n := by simp [up]
theorem iRg1_up {d : Type} {ρ : Env} {s : d} (n : Int) (h : 0 ≤ n ∧ n ≤ 1000000) : iRg1 (aCons (cC (.int n)) aNil) ρ s = .ok ((up n.toNat).map PyData.int, s) := by
  unfold iRg1
  walk_at "ev"
  rw [if_pos (in62_ok (by omega) (by omega)), rngL_01]
  rfl
/-- the first and the last -/
def flD (l : List Int) : PD := match l.head?, l.getLast? with
  | some a, some b => .tuple [.int a, .int b]
  | _, _ => .none
theorem ne_nil_ints (l : List Int) : pNe (.list (l.map PyData.int)) (.list []) = .ok (.bool (decide (l ≠ []))) := by
  have := pNe_ints l []
  rw [show ([] : List Int).map PyData.int = [] from rfl] at this
  rw [this]
  by_cases h : l = [] <;> simp [h]
theorem fl_ev {d : Type} {ρ : Env} {s : d} {i : Nat} (l : List Int) (h : ρ[i]? = some (some (.list (l.map PyData.int)))) :
    cIf (cTest (cOp pNe (cVar i) (cLst aNil))) (cTup (aCons (cOp pIx (cVar i) (cC (.int 0))) (aCons (cOp pIx (cVar i) (cUn pNeg (cC (.int 1)))) aNil))) (cC .none) ρ s = .ok (flD l, s) := by
  have hv : ∀ s : d, cVar i ρ s = .ok (.list (l.map PyData.int), s) := fun s => by unfold cVar; rw [h]
  unfold cIf
  rw [cTest_ok (s' := s) (b := decide (l ≠ [])) (by unfold cOp; rw [hv]; walk_at "ev"; rw [ne_nil_ints]; rfl), bnd_ok]
  cases l with
  | nil => rfl
  | cons a l =>
    rw [if_pos (by simp)]
    have h1 := pIx_head PyData.int (a :: l) a rfl
    have h2 := pIx_last PyData.int (a :: l) ((a :: l).getLast (by simp)) (List.getLast?_eq_some_getLast (by simp))
    have h1' : cOp pIx (cVar i) (cC (.int 0)) ρ s = .ok (.int a, s) := by
      unfold cOp
      rw [hv]
      simp only [bnd_ok, cC]
      rw [h1]
      rfl
    have h2' : cOp pIx (cVar i) (cUn pNeg (cC (.int 1))) ρ s = .ok (.int ((a :: l).getLast (by simp)), s) := by
      unfold cOp
      rw [hv]
      simp only [bnd_ok, cC, cUn, isD_int, if_true]
      rw [show pNeg (.int 1) = .ok (.int (-1)) from rfl]
      simp only [isOk_ok, lft_ok, bnd_ok, isD_list, isD_int, Bool.and_self, if_true]
      rw [h2]
      rfl
    unfold cTup aCons
    rw [h1', bnd_ok, h2']
    walk_at "ev"
    unfold flD
    rw [List.getLast?_eq_some_getLast (show a :: l ≠ [] by simp)]
    rfl
theorem fl_self (l : List Int) : isD (flD l) = true ∧ pNe (flD l) (flD l) = .ok (.bool false) := by
  unfold flD
  split
  · refine ⟨rfl, ?_⟩
    rw [show ∀ a b : Int, PyData.tuple [.int a, .int b] = eP (a, b) from fun _ _ => rfl, pNe_eP]
    simp
  · exact ⟨rfl, rfl⟩
/-- the thresholds that give a point -/
def thr (T : List Th) (q : PD) : List Int := (up 101).filter fun t => PyData.eqv (eP (cnt T t)) q
theorem m_thresholds_for_eq {T : List Th} (g : GoodT T) {q : PD} (hq : SeqAt.shaped q = true) (hd : isD q = true) : m_thresholds_for [encT T, q] = .ok (flD (thr T q)) := by
  refine mBody_of ?_
  unfold b_thresholds_for
  refine ev_seq (ρ' := [some (encT T), some q, none, none]) (s' := ()) ?_ (ev_seq (ρ' := [some (encT T), some q, some (.list ((thr T q).map PyData.int)), none]) (s' := ()) ?_ (ret_of (fl_ev (thr T q) rfl) ?_))
  · walk_at "ev"
    rw [m_check_things_eq g]
    rfl
  · unfold sSet
    rw [cComp_pure (up 101) PyData.int (fun t => PyData.eqv (eP (cnt T t)) q) PyData.int]
    · rfl
    · exact iRg1_up 101 (by decide)
    · rw [up_len]; decide
    · intro t _
      refine ⟨_, rfl, ev_test ?_, fun _ => ⟨rfl, rfl⟩⟩
      walk_at "ev"
      rw [m_counts_eq g.l1000]
      walk_at "ev"
      rw [hd, pEq_ok (shaped_eP _) hq]
      rfl
  · unfold flD
    split <;> rfl
def ysUpTo (P : List Pt) (f : Int) : List Int := (P.filter fun p => decide (p.1 ≤ f)).map (·.2)
def xsFrom (P : List Pt) (t : Int) : List Int := (P.filter fun p => decide (t ≤ p.2)).map (·.1)
def mxD (l : List Int) : R PD := pMax [.list (l.map PyData.int)]
def mnD (l : List Int) : PD := match l with
  | x :: r => .int (minL x r)
  | [] => .none
theorem mn_self (l : List Int) : isD (mnD l) = true ∧ pEq (mnD l) (mnD l) = .ok (.bool true) := by
  cases l with
  | nil => exact ⟨rfl, rfl⟩
  | cons a l =>
    refine ⟨rfl, ?_⟩
    unfold mnD
    rw [pEq_i]
    simp
theorem mxD_cons (x : Int) (r : List Int) : mxD (x :: r) = .ok (.int (maxL x r)) := by
  unfold mxD
  show (match toInts ((x :: r).map PyData.int) with | some (x :: r) => R.ok (PyData.int (maxL x r)) | _ => R.bad) = _
  rw [toInts_map]
theorem m_most_true_eq {T : List Th} (g : GoodT T) {f : Int} (h : 0 ≤ f ∧ f ≤ 12) : ∃ v, mxD (ysUpTo (pts T) f) = .ok (.int v) ∧ m_most_true [encT T, .int f] = .ok (.int v) := by
  obtain ⟨r, hr⟩ : ∃ r, ysUpTo (pts T) f = 0 :: r := by
    unfold ysUpTo pts
    rw [List.filter_cons_of_pos (by simpa using h.1)]
    exact ⟨_, rfl⟩
  have hm := mxD_cons 0 r
  refine ⟨_, by rw [hr]; exact hm, ?_⟩
  rw [← hr] at hm
  unfold mxD ysUpTo at hm
  have hpl := pts_len T
  have hsl := scs_len T
  have hg := g.l2
  refine mBody_of ?_
  unfold b_most_true
  refine ev_seq (ρ' := [some (encT T), some (.int f), none, none]) (s' := ()) ?_ (ev_seq (ρ' := [some (encT T), some (.int f), none, none]) (s' := ()) (ev_if_f (s' := ()) (ev_not (b := true) (ev_test ?_)) rfl) (ret_of ?_ rfl))
  · walk_at "ev"
    rw [m_check_things_eq g]
    rfl
  · walk_at "ev"
    rw [m_is_int_int, decide_eq_true h.1, decide_eq_true h.2]
    rfl
  · unfold cCall aCons
    rw [cComp_pure (pts T) eP (fun p => decide (p.1 ≤ f)) (fun p => .int p.2)]
    · walk_at "ev"
      rw [List.map_map] at hm
      rw [show pMax [.list (((pts T).filter fun p => decide (p.1 ≤ f)).map fun p => .int p.2)] = .ok (.int (maxL 0 r)) from hm]
      rfl
    · unfold iLst
      walk_at "ev"
      rw [m_points_of_eq g.l64]
      rfl
    · omega
    · intro p _
      exact ⟨_, rfl, rfl, fun _ => ⟨rfl, rfl⟩⟩
theorem mn_ev {d : Type} {ρ : Env} {s : d} {i : Nat} (l : List Int) (h : ρ[i]? = some (some (.list (l.map PyData.int)))) :
    cIf (cTest (cOp pNe (cVar i) (cLst aNil))) (cCall pMin (aCons (cVar i) aNil)) (cC .none) ρ s = .ok (mnD l, s) := by
  have hv : ∀ s : d, cVar i ρ s = .ok (.list (l.map PyData.int), s) := fun s => by unfold cVar; rw [h]
  unfold cIf
  rw [cTest_ok (s' := s) (b := decide (l ≠ [])) (by unfold cOp; rw [hv]; walk_at "ev"; rw [ne_nil_ints]; rfl), bnd_ok]
  cases l with
  | nil => rfl
  | cons a l =>
    rw [if_pos (by simp)]
    unfold cCall aCons
    rw [hv]
    walk_at "ev"
    have : pMin [.list (PyData.int a :: l.map PyData.int)] = .ok (.int (minL a l)) := by
      show (match toInts ((a :: l).map PyData.int) with | some (x :: r) => R.ok (PyData.int (minL x r)) | _ => R.bad) = _
      rw [toInts_map]
    rw [this]
    rfl
theorem m_least_false_eq {T : List Th} (g : GoodT T) {f : Int} (h : 0 ≤ f ∧ f ≤ 12) : m_least_false [encT T, .int f] = .ok (mnD (xsFrom (pts T) f)) := by
  have hpl := pts_len T
  have hsl := scs_len T
  have hg := g.l2
  refine mBody_of ?_
  unfold b_least_false
  refine ev_seq (ρ' := [some (encT T), some (.int f), none, none, none]) (s' := ()) ?_ (ev_seq (ρ' := [some (encT T), some (.int f), none, none, none]) (s' := ()) (ev_if_f (s' := ()) (ev_not (b := true) (ev_test ?_)) rfl) (ev_seq (ρ' := [some (encT T), some (.int f), some (.list ((xsFrom (pts T) f).map PyData.int)), none, none]) (s' := ()) ?_ (ret_of (mn_ev _ rfl) ?_)))
  · walk_at "ev"
    rw [m_check_things_eq g]
    rfl
  · walk_at "ev"
    rw [m_is_int_int, decide_eq_true h.1, decide_eq_true h.2]
    rfl
  · unfold sSet
    rw [cComp_pure (pts T) eP (fun p => decide (f ≤ p.2)) (fun p => .int p.1)]
    · unfold xsFrom
      rw [List.map_map]
      rfl
    · unfold iLst
      walk_at "ev"
      rw [m_points_of_eq g.l64]
      rfl
    · omega
    · intro p _
      exact ⟨_, rfl, rfl, fun _ => ⟨rfl, rfl⟩⟩
  · unfold mnD
    split <;> rfl
end DL

/-! M6: pairs, things put together, costs -/
namespace DL
open PySem PySem.Spec PyProof.Rows L2
local macro_rules | `(tactic| walk_at "ev") => `(tactic| simp only [szL, Nat.reduceLeDiff, mBody, mBodyD, outP, outD, cVar, cC, cOp, cUn, cTest, cAndT, cOrT, cNotT, cAndV, cOrV, cIf, aNil, aCons, cTup, cLst, cSl, oNone, oSome, cCall, cCallF, cCallD, cMeth, noX', isL_list, isL_encP, tYesD, bnd_ok, bnd_exc, bnd_bad, lft_ok, lft_exc, lft_bad, isOk_ok, isOk_exc, isOk_bad, isD_int, isD_bool, isD_none, isD_str, isD_list, isD_tuple, isD_eP, isD_eT, isD_encP, isD_encT, allD, List.all_cons, List.all_nil, Bool.and_self, Bool.and_true, Bool.true_and, if_true, if_false, Bool.false_eq_true, ite_true, ite_false, reduceIte, List.length_cons, List.length_nil, List.map_cons, List.map_nil, List.cons_append, List.nil_append, List.replicate_succ, List.replicate_zero, List.getElem?_cons_zero, List.getElem?_cons_succ, List.set_cons_zero, List.set_cons_succ, wipeD, sSeq, sSet, sAsg, sRet, sIf, sExpr, sNil, sRaise, sSetF, sApp, sAug, sAugL, sPar, sPar3, fLst, bNm, bTup, bCons, bNil, pNot, pIsi, isiT, tyN, pNeg, Nat.reduceAdd, decide_true, decide_false, Bool.not_true, Bool.not_false, noX_ok, pLe_i, pLt_i, pGt_i, pGe_i, pAdd_i, pSub_i, pLen_l, pLen_t, pIx_t0, pIx_t1, pEq_i, pNe_i])
local macro_rules | `(tactic| walk_at "evs") => `(tactic| simp [szL, mBody, mBodyD, outP, outD, cVar, cC, cOp, cUn, cTest, cAndT, cOrT, cNotT, cAndV, cOrV, cIf, aNil, aCons, cTup, cLst, cSl, oNone, oSome, cCall, cCallF, cCallD, cMeth, noX', isL_list, isL_encP, tYesD, bnd_ok, bnd_exc, bnd_bad, lft_ok, lft_exc, lft_bad, isOk_ok, isOk_exc, isOk_bad, isD_int, isD_bool, isD_none, isD_str, isD_list, isD_tuple, isD_eP, isD_eT, isD_encP, isD_encT, allD, List.all_cons, List.all_nil, List.map_cons, List.map_nil, List.cons_append, List.nil_append, List.replicate_succ, List.replicate_zero, List.getElem?_cons_zero, List.getElem?_cons_succ, List.set_cons_zero, List.set_cons_succ, wipeD, sSeq, sSet, sAsg, sRet, sIf, sExpr, sNil, sRaise, sSetF, sApp, sAug, sAugL, sPar, sPar3, fLst, bNm, bTup, bCons, bNil, pNot, pIsi, isiT, tyN, pNeg, noX_ok, pLe_i, pLt_i, pGt_i, pGe_i, pAdd_i, pSub_i, pLen_l, pLen_t, pIx_t0, pIx_t1, pEq_i, pNe_i])
local macro_rules | `(tactic| walk_at "evx") => `(tactic| simp [szL, mBody, mBodyD, outP, outD, cVar, cC, cOp, cUn, cTest, cAndT, cOrT, cNotT, cAndV, cOrV, cIf, aNil, aCons, cTup, cLst, cSl, oNone, oSome, cCall, cCallF, cCallD, cMeth, noX', isL_list, isL_encP, tYesD, bnd_ok, bnd_exc, bnd_bad, lft_ok, lft_exc, lft_bad, isOk_ok, isOk_exc, isOk_bad, isD_int, isD_bool, isD_none, isD_str, isD_list, isD_tuple, isD_eP, isD_eT, isD_encP, isD_encT, allD, List.all_cons, List.all_nil, List.map_cons, List.map_nil, List.cons_append, List.nil_append, List.replicate_succ, List.replicate_zero, List.getElem?_cons_zero, List.getElem?_cons_succ, List.set_cons_zero, List.set_cons_succ, wipeD, sSeq, sSet, sAsg, sRet, sIf, sExpr, sNil, sRaise, sSetF, sApp, sAug, sAugL, sPar, sPar3, fLst, bNm, bTup, bCons, bNil, pNot, pIsi, isiT, tyN, pNeg, noX_ok, pLe_i, pLt_i, pGt_i, pGe_i, pAdd_i, pSub_i, pLen_l, pLen_t, pIx_t0, pIx_t1, pEq_i, pNe_i, *])
theorem ev_let {d : Type} {i : Nat} {e : Env → d → R (PD × d)} {g : Env → d → R (Fl × d)} {ρ : Env} {s s1 : d} {v : PD} {r : R (Fl × d)} (h : e ρ s = .ok (v, s1)) (k : g (ρ.set i (some v)) s1 = r) : sSeq (sSet i e) g ρ s = r := ev_seq (ev_set h) k
theorem ev_check {d : Type} {e : Env → d → R (PD × d)} {g : Env → d → R (Fl × d)} {ρ : Env} {s s1 : d} {v : PD} {r : R (Fl × d)} (h : e ρ s = .ok (v, s1)) (k : g ρ s1 = r) : sSeq (sExpr e) g ρ s = r := ev_seq (ev_exp h) k
theorem ev_guard {d : Type} {t : Env → d → R (Bool × d)} {f g : Env → d → R (Fl × d)} {ρ : Env} {s s1 : d} {r : R (Fl × d)} (h : t ρ s = .ok (false, s1)) (k : g ρ s1 = r) : sSeq (sIf t f sNil) g ρ s = r := ev_seq (ev_if_f h rfl) k
theorem ev_asg {d : Type} {b : Bd} {e : Env → d → R (PD × d)} {ρ ρ' : Env} {s s1 : d} {v : PD} (h : e ρ s = .ok (v, s1)) (hb : b v ρ = some ρ') : sAsg b e ρ s = .ok (.nx ρ', s1) := by
  unfold sAsg
  rw [h, bnd_ok, hb]
theorem ev_unp {d : Type} {b : Bd} {e : Env → d → R (PD × d)} {g : Env → d → R (Fl × d)} {ρ ρ' : Env} {s s1 : d} {v : PD} {r : R (Fl × d)} (h : e ρ s = .ok (v, s1)) (hb : b v ρ = some ρ') (k : g ρ' s1 = r) : sSeq (sAsg b e) g ρ s = r := ev_seq (ev_asg h hb) k
theorem ev_for_pass2 {d a : Type} {it : Env → d → R (List PD × d)} {bd : Bd} {body g : Env → d → R (Fl × d)} {ρ : Env} {s s' : d} {r : R (Fl × d)} (xs : List a) (enc : a → PD) (Ok : Env → Prop) (hi : it ρ s = .ok (xs.map enc, s')) (h0 : Ok ρ)
    (h : ∀ x ∈ xs, ∀ ρ, Ok ρ → ∃ ρ1 ρ2, bd (enc x) ρ = some ρ1 ∧ body ρ1 s' = .ok (.nx ρ2, s') ∧ Ok ρ2) (k : ∀ ρ', Ok ρ' → g ρ' s' = r) : sSeq (sFor it bd body) g ρ s = r := by
  obtain ⟨ρ', e, o⟩ := sForGo_pass enc Ok s' xs ρ h0 h
  exact ev_seq (ev_for hi e) (k ρ' o)
theorem eqv_bool (a b : Bool) : PyData.eqv (.bool a) (.bool b) = decide (a = b) := by
  cases a <;> cases b <;> rfl
theorem pEq_b (a b : Bool) : pEq (.bool a) (.bool b) = .ok (.bool (decide (a = b))) := by rw [pEq_ok rfl rfl, eqv_bool]
theorem pNe_b (a b : Bool) : pNe (.bool a) (.bool b) = .ok (.bool (!decide (a = b))) := by rw [pNe_ok rfl rfl, eqv_bool]
theorem eqv_eT (p q : Th) : PyData.eqv (eT p) (eT q) = decide (p = q) := by
  unfold eT
  show (PyData.eqv (.int p.1) (.int q.1) && (PyData.eqv (.bool p.2) (.bool q.2) && true)) = _
  rw [eqv_int, eqv_bool]
  by_cases h : p = q
  · subst h; simp
  · rw [decide_eq_false h]
    by_cases h1 : p.1 = q.1
    · have h2 : p.2 ≠ q.2 := fun h2 => h (Prod.ext h1 h2)
      simp [h2]
    · simp [h1]
theorem eqv_encT (P Q : List Th) : PyData.eqv (encT P) (encT Q) = decide (P = Q) := by
  have h := eqvAll_enc eT (fun x y => by rw [eqv_eT, decide_eq_true_eq]) P Q
  show PyData.eqvAll (P.map eT) (Q.map eT) = _
  by_cases e : P = Q
  · rw [decide_eq_true e]; exact h.mpr e
  · rw [decide_eq_false e]
    cases q : PyData.eqvAll (P.map eT) (Q.map eT) with
    | false => rfl
    | true => exact absurd (h.mp q) e
theorem pNe_encT (p q : List Th) : pNe (encT p) (encT q) = .ok (.bool (!decide (p = q))) := by rw [pNe_ok (shaped_encT p) (shaped_encT q), eqv_encT]
theorem pEq_encT (p q : List Th) : pEq (encT p) (encT q) = .ok (.bool (decide (p = q))) := by rw [pEq_ok (shaped_encT p) (shaped_encT q), eqv_encT]
theorem ne_self {b : Prop} [Decidable b] (h : b) : (R.ok (PyData.bool (!decide b))) = .ok (.bool false) := by rw [decide_eq_true h]; rfl
theorem eq_self {b : Prop} [Decidable b] (h : b) : (R.ok (PyData.bool (decide b))) = .ok (.bool true) := by rw [decide_eq_true h]
theorem pNe_encT_self (p : List Th) : pNe (encT p) (encT p) = .ok (.bool false) := (pNe_encT p p).trans (ne_self rfl)
theorem pNe_encP_self (p : List Pt) : pNe (encP p) (encP p) = .ok (.bool false) := (pNe_encP p p).trans (ne_self rfl)
theorem pNe_eP_self (p : Pt) : pNe (eP p) (eP p) = .ok (.bool false) := (pNe_eP p p).trans (ne_self rfl)
theorem pNe_i_self (p : Int) : pNe (.int p) (.int p) = .ok (.bool false) := (pNe_i p p).trans (ne_self rfl)
theorem pNe_ints_self (p : List Int) : pNe (.list (p.map PyData.int)) (.list (p.map PyData.int)) = .ok (.bool false) := (pNe_ints p p).trans (ne_self rfl)
/-- a triple of ints -/
def e3 (a b c : Int) : PD := .tuple [.int a, .int b, .int c]
theorem shaped_e3 (a b c : Int) : SeqAt.shaped (e3 a b c) = true := by
  refine Sh.ok (n := 1) (Sh.tuple (n := 0) fun x hx => ?_) (by decide)
  simp only [List.mem_cons, List.not_mem_nil, or_false] at hx
  rcases hx with rfl | rfl | rfl <;> exact Sh.int _
theorem pNe_e3_self (a b c : Int) : pNe (e3 a b c) (e3 a b c) = .ok (.bool false) := by
  rw [pNe_ok (shaped_e3 a b c) (shaped_e3 a b c)]
  have : PyData.eqv (e3 a b c) (e3 a b c) = true := by
    show (PyData.eqv (.int a) (.int a) && (PyData.eqv (.int b) (.int b) && (PyData.eqv (.int c) (.int c) && true))) = true
    simp [eqv_int]
  rw [this]; rfl
theorem ev_iLst {d : Type} {e : Env → d → R (PD × d)} {ρ : Env} {s s1 : d} {xs : List PD} (h : e ρ s = .ok (.list xs, s1)) : iLst e ρ s = .ok (xs, s1) := by
  unfold iLst
  rw [h]
  rfl
theorem ev_lst {d : Type} {a : Env → d → R (List PD × d)} {ρ : Env} {s s1 : d} {xs : List PD} (h : a ρ s = .ok (xs, s1)) (hd : allD xs = true := by rfl) (hl : xs.length ≤ sizeLine := by simp [szL]) : cLst a ρ s = .ok (.list xs, s1) := by
  unfold cLst
  rw [h, bnd_ok, hd, decide_eq_true hl]
  rfl
theorem ev_tup {d : Type} {a : Env → d → R (List PD × d)} {ρ : Env} {s s1 : d} {xs : List PD} (h : a ρ s = .ok (xs, s1)) (hd : allD xs = true := by rfl) (hl : xs.length ≤ sizeLine := by simp [szL]) : cTup a ρ s = .ok (.tuple xs, s1) := by
  unfold cTup
  rw [h, bnd_ok, hd, decide_eq_true hl]
  rfl
theorem ev_meth {d : Type} {f : PD → PD → R PD} {a b : Env → d → R (PD × d)} {ρ : Env} {s s1 s2 : d} {x y v : PD} (ha : a ρ s = .ok (x, s1)) (hb : b ρ s1 = .ok (y, s2)) (hf : f x y = .ok v) (hx : isL x = true := by rfl) (hy : isD y = true := by rfl) : cMeth f a b ρ s = .ok (v, s2) := by
  unfold cMeth
  rw [ha, bnd_ok, hx, if_pos rfl, hb, bnd_ok, hy, hf]
  rfl
theorem pCount_ints (l : List Int) (k : Int) : pCount (.list (l.map PyData.int)) (.int k) = .ok (.int (l.count k : Int)) := by
  show (match toInts (l.map PyData.int) with | some bs => _ | none => _) = _
  rw [toInts_map]
/-! ### pairs -/
def rgt (a b : Int) : Bool := decide (b < a)
def req (a b : Int) : Bool := decide (a = b)
def rlt (a b : Int) : Bool := decide (a < b)
def prx (r : Int → Int → Bool) (x : Th) (U : List Th) : Int := ((U.filter fun y => x.2 && !y.2 && r x.1 y.1).length : Int)
def pr (r : Int → Int → Bool) (T U : List Th) : Int := (T.map fun x => prx r x U).sum
theorem prx_cons (r : Int → Int → Bool) (x y : Th) (U : List Th) : prx r x (y :: U) = (if (x.2 && !y.2 && r x.1 y.1) = true then 1 else 0) + prx r x U := by
  unfold prx
  cases h : x.2 && !y.2 && r x.1 y.1 with
  | true => rw [List.filter_cons_of_pos (by exact h), List.length_cons]; simp; omega
  | false => rw [List.filter_cons_of_neg (by simp [h])]; simp
theorem prx_nil (r : Int → Int → Bool) (x : Th) : prx r x [] = 0 := rfl
theorem prx_append (r : Int → Int → Bool) (x : Th) (U V : List Th) : prx r x (U ++ V) = prx r x U + prx r x V := by
  unfold prx
  rw [List.filter_append, List.length_append]; omega
theorem pr_nil (r : Int → Int → Bool) (U : List Th) : pr r [] U = 0 := rfl
theorem pr_cons (r : Int → Int → Bool) (x : Th) (T U : List Th) : pr r (x :: T) U = prx r x U + pr r T U := rfl
theorem pr_append (r : Int → Int → Bool) (T T' U : List Th) : pr r (T ++ T') U = pr r T U + pr r T' U := by
  unfold pr
  rw [List.map_append, List.sum_append]
theorem pr_app2 (r : Int → Int → Bool) (U V : List Th) : ∀ T : List Th, pr r T (U ++ V) = pr r T U + pr r T V
  | [] => rfl
  | x :: T => by
    have := pr_app2 r U V T
    rw [pr_cons, pr_cons, pr_cons, prx_append, this]; omega
def inBody : Env → Unit → R (Fl × Unit) := (sIf (cAndT (cTest (cVar 5)) (cNotT (cTest (cVar 7))))
      (sSeq (sAug 1 (cIf (cTest (cOp pGt (cVar 4) (cVar 6))) (cC (.int 1)) (cC (.int 0))))
      (sSeq (sAug 2 (cIf (cTest (cOp pEq (cVar 4) (cVar 6))) (cC (.int 1)) (cC (.int 0))))
      (sAug 3 (cIf (cTest (cOp pLt (cVar 4) (cVar 6))) (cC (.int 1)) (cC (.int 0))))))
      sNil)
theorem in_loop (T : PD) (x : Th) : ∀ (U : List Th) (w t l : Int) (a b : Option PD), ∃ a' b', sForGo (bTup (bCons (bNm 6) (bCons (bNm 7) bNil))) inBody (U.map eT) [some T, some (.int w), some (.int t), some (.int l), some (.int x.1), some (.bool x.2), a, b] () =
    .ok (.nx [some T, some (.int (w + prx rgt x U)), some (.int (t + prx req x U)), some (.int (l + prx rlt x U)), some (.int x.1), some (.bool x.2), a', b'], ())
  | [], w, t, l, a, b => ⟨a, b, by simp [prx_nil, sForGo]⟩
  | y :: U, w, t, l, a, b => by
    have step : inBody [some T, some (.int w), some (.int t), some (.int l), some (.int x.1), some (.bool x.2), some (.int y.1), some (.bool y.2)] () =
        .ok (.nx [some T, some (.int (w + if (x.2 && !y.2 && rgt x.1 y.1) = true then 1 else 0)), some (.int (t + if (x.2 && !y.2 && req x.1 y.1) = true then 1 else 0)), some (.int (l + if (x.2 && !y.2 && rlt x.1 y.1) = true then 1 else 0)), some (.int x.1), some (.bool x.2), some (.int y.1), some (.bool y.2)], ()) := by
      unfold inBody rgt req rlt
      cases hx : x.2 with
      | false => simp [sIf, cAndT, cTest, cVar, bnd_ok, sNil]
      | true =>
        cases hy : y.2 with
        | true => simp [sIf, cAndT, cNotT, cTest, cVar, bnd_ok, sNil]
        | false =>
          have e1 : ∀ (p : Prop) [Decidable p] (ρ : Env), (cIf (cTest fun _ s => R.ok (.bool (decide p), s)) (cC (.int 1)) (cC (.int 0)) ρ () : R (PD × Unit)) = .ok (.int (if p then 1 else 0), ()) := fun p _ ρ => by
            by_cases h : p <;> simp [cIf, cTest, cC, h, bnd_ok]
          simp only [sIf, cAndT, cNotT, cTest, cVar, bnd_ok, List.getElem?_cons_zero, List.getElem?_cons_succ, Bool.not_false, if_true, sSeq, sAug, cIf, cOp, isD_int, Bool.and_self, pGt_i, pEq_i, pLt_i, isOk_ok, lft_ok, cC]
          by_cases h1 : y.1 < x.1
          · have h2 : ¬ x.1 = y.1 := by omega
            have h3 : ¬ x.1 < y.1 := by omega
            simp [h1, h2, h3, bnd_ok, isD_int, pGt_i, pEq_i, pLt_i, isOk_ok, lft_ok]
          · by_cases h2 : x.1 = y.1
            · have h3 : ¬ x.1 < y.1 := by omega
              simp [h1, h2, h3, bnd_ok, isD_int, pGt_i, pEq_i, pLt_i, isOk_ok, lft_ok]
            · have h3 : x.1 < y.1 := by omega
              simp [h1, h2, h3, bnd_ok, isD_int, pGt_i, pEq_i, pLt_i, isOk_ok, lft_ok]
    obtain ⟨a', b', ih⟩ := in_loop T x U (w + if (x.2 && !y.2 && rgt x.1 y.1) = true then 1 else 0) (t + if (x.2 && !y.2 && req x.1 y.1) = true then 1 else 0) (l + if (x.2 && !y.2 && rlt x.1 y.1) = true then 1 else 0) (some (.int y.1)) (some (.bool y.2))
    refine ⟨a', b', ?_⟩
    show sForGo _ _ (eT y :: U.map eT) _ _ = _
    unfold sForGo
    rw [show bTup (bCons (bNm 6) (bCons (bNm 7) bNil)) (eT y) [some T, some (.int w), some (.int t), some (.int l), some (.int x.1), some (.bool x.2), a, b] = some [some T, some (.int w), some (.int t), some (.int l), some (.int x.1), some (.bool x.2), some (.int y.1), some (.bool y.2)] from rfl]
    dsimp only
    rw [step]
    dsimp only
    rw [ih, prx_cons, prx_cons, prx_cons, Int.add_assoc, Int.add_assoc, Int.add_assoc]
theorem m_outcomes_eq (T : List Th) : m_outcomes [encT T] = .ok (.tuple [.int (pr rgt T T), .int (pr req T T), .int (pr rlt T T)]) := by
  refine mBody_of ?_
  unfold b_outcomes
  refine ev_unp (s1 := ()) rfl (ρ' := [some (encT T), some (.int 0), some (.int 0), some (.int 0), none, none, none, none]) rfl ?_
  obtain ⟨ρ', s', e, i⟩ := sForGo_inv (d := Unit) (bd := bTup (bCons (bNm 4) (bCons (bNm 5) bNil))) (body := sFor (iLst (cVar 0)) (bTup (bCons (bNm 6) (bCons (bNm 7) bNil))) inBody) eT
    (fun p ρ _ => ∃ a b c d, ρ = [some (encT T), some (.int (pr rgt p T)), some (.int (pr req p T)), some (.int (pr rlt p T)), a, b, c, d]) T [] [some (encT T), some (.int 0), some (.int 0), some (.int 0), none, none, none, none] () ⟨_, _, _, _, rfl⟩ fun p x q ρ s _ hi => by
      obtain ⟨a, b, c, d, rfl⟩ := hi
      obtain ⟨a', b', e⟩ := in_loop (encT T) x T (pr rgt p T) (pr req p T) (pr rlt p T) c d
      refine ⟨[some (encT T), some (.int (pr rgt p T)), some (.int (pr req p T)), some (.int (pr rlt p T)), some (.int x.1), some (.bool x.2), c, d], _, (), rfl, ev_for (s' := ()) rfl e, ⟨some (.int x.1), some (.bool x.2), a', b', ?_⟩⟩
      rw [pr_append, pr_append, pr_append, pr_cons, pr_cons, pr_cons, pr_nil, pr_nil, pr_nil, Int.add_zero, Int.add_zero, Int.add_zero]
  obtain ⟨a, b, c, d, rfl⟩ := i
  exact ev_seq (ev_for (s' := ()) rfl e) rfl
theorem m_pair_counts_eq {T : List Th} (g : GoodT T) : m_pair_counts [encT T] = .ok (.tuple [.int (pr rgt T T), .int (pr req T T), .int (pr rlt T T)]) :=
  mBody_of (ev_check (ev_callF (s1 := ()) rfl (m_check_things_eq g)) (ret_of (ev_callF rfl (m_outcomes_eq T)) rfl))
/-! ### put together -/
theorem pAdd_lists (xs ys : List PD) (h : xs.length + ys.length ≤ 1000) : pAdd (.list xs) (.list ys) = .ok (.list (xs ++ ys)) := by
  show (if xs.length + ys.length ≤ sizeLine then _ else _) = _
  rw [if_pos (by rw [szL]; omega)]
theorem pAdd_encT {T U : List Th} (h : T.length + U.length ≤ 1000) : pAdd (encT T) (encT U) = .ok (encT (T ++ U)) := by
  unfold encT
  rw [pAdd_lists _ _ (by rw [List.length_map, List.length_map]; exact h), List.map_append]
theorem m_joined_eq {T U : List Th} (g : GoodT T) (h : GoodT U) (k : T.length + U.length ≤ 12) : m_joined [encT T, encT U] = .ok (encT (T ++ U)) := by
  have g2 : GoodT (T ++ U) := ⟨by rw [List.length_append]; have := g.l1; omega, by rw [List.length_append]; omega, fun x hx => by
    rcases List.mem_append.mp hx with z | z
    · exact g.sc x z
    · exact h.sc x z⟩
  exact mBody_of (ev_check (ev_callF (s1 := ()) rfl (m_check_things_eq g)) (ev_check (ev_callF (s1 := ()) rfl (m_check_things_eq h)) (ev_let (ev_op (s2 := ()) rfl rfl (pAdd_encT (by omega))) (ev_check (ev_callF (s1 := ()) rfl (m_check_things_eq g2)) rfl))))
/-! ### costs -/
def cst (T : List Th) (a b t : Int) : Int := a * fa T t + b * (tr T 0 - tr T t)
def ths (T : List Th) : List Int := 100 :: scs T
theorem m_check_cost_eq {a : Int} (h : 0 ≤ a ∧ a ≤ 1000) : m_check_cost [.int a] = .ok .none := by
  unfold m_check_cost b_check_cost
  walk_at "ev"
  rw [m_is_int_int, decide_eq_true h.1, decide_eq_true h.2]
  rfl
theorem m_check_costs_eq {a b : Int} (h : 0 ≤ a ∧ a ≤ 1000) (k : 0 ≤ b ∧ b ≤ 1000) : m_check_costs [.int a, .int b] = .ok .none := by
  unfold m_check_costs b_check_costs
  walk_at "ev"
  rw [m_check_cost_eq h]
  walk_at "ev"
  rw [m_check_cost_eq k]
  rfl
theorem m_thresholds_of_eq {T : List Th} (g : GoodT T) : m_thresholds_of [encT T] = .ok (.list ((ths T).map PyData.int)) := by
  have h1 := scs_len T
  have h2 := g.l2
  exact mBody_of (ret_of (ev_op (s2 := ()) rfl (ev_callF rfl (m_scores_of_eq g.l64)) (pAdd_lists _ _ (by simp; omega))) rfl)
theorem m_cost_of_eq {T : List Th} (g : GoodT T) {a b : Int} (h : 0 ≤ a ∧ a ≤ 1000) (k : 0 ≤ b ∧ b ≤ 1000) (t : Int) : m_cost_of [encT T, .int t, .int a, .int b] = .ok (.int (cst T a b t)) := by
  refine mBody_of ?_
  unfold b_cost_of
  refine ev_unp (s1 := ()) (ev_callF rfl (m_counts_eq g.l1000 t)) (ρ' := [some (encT T), some (.int t), some (.int a), some (.int b), some (.int (fa T t)), some (.int (tr T t))]) rfl ?_
  refine ret_of (ev_op (s1 := ()) (s2 := ()) (ev_op (s2 := ()) rfl rfl (pMul_i (by omega))) (ev_op (s1 := ()) (s2 := ()) rfl (ev_op (s1 := ()) (s2 := ()) (ev_op (s1 := ()) (s2 := ()) (ev_callF rfl (m_counts_eq g.l1000 0)) rfl (pIx_t1 _ _ _)) rfl (pSub_i _ _)) (pMul_i (by omega))) (pAdd_i _ _)) rfl
theorem pMin_ints (a : Int) (l : List Int) : pMin [.list ((a :: l).map PyData.int)] = .ok (.int (minL a l)) := by
  show (match toInts ((a :: l).map PyData.int) with | some (x :: r) => R.ok (PyData.int (minL x r)) | _ => R.bad) = _
  rw [toInts_map]
theorem m_least_cost_eq {T : List Th} (g : GoodT T) {a b : Int} (h : 0 ≤ a ∧ a ≤ 1000) (k : 0 ≤ b ∧ b ≤ 1000) : m_least_cost [encT T, .int a, .int b] = .ok (.int (minL (cst T a b 100) ((scs T).map (cst T a b)))) := by
  have h1 := scs_len T
  have h2 := g.l2
  refine mBody_of (ev_check (ev_callF (s1 := ()) rfl (m_check_things_eq g)) (ev_check (ev_callF (s1 := ()) rfl (m_check_costs_eq h k)) (ret_of (ev_call (s1 := ()) (ev_a1 (cComp_map (ths T) PyData.int (fun t => .int (cst T a b t)) ?_ (by simp [ths]; omega) fun t _ => ⟨_, rfl, ev_callF rfl (m_cost_of_eq g h k t), rfl⟩)) ?_) rfl)))
  · unfold iLst
    rw [ev_callF (s1 := ()) rfl (m_thresholds_of_eq g)]
    rfl
  · have := pMin_ints (cst T a b 100) ((scs T).map (cst T a b))
    rw [List.map_cons, List.map_map] at this
    exact this
/-- every threshold's alarms are those of one of the program's own -/
theorem cnt_ths {T : List Th} (g : GoodT T) {t : Int} (h : 0 ≤ t) : ∃ u ∈ ths T, cnt T t = cnt T u := by
  have key : ∀ k : Nat, ∀ u : Int, u + (k : Int) = 100 → ∃ v ∈ ths T, cnt T u = cnt T v := by
    intro k
    induction k with
    | zero => intro u e; exact ⟨100, by simp [ths], by rw [show u = 100 by omega]⟩
    | succ k ih =>
      intro u e
      by_cases m : u ∈ scs T
      · exact ⟨u, by simp [ths, m], rfl⟩
      · rw [cnt_same T m]
        exact ih (u + 1) (by omega)
  by_cases h1 : t ≤ 100
  · exact key (100 - t).toNat t (by omega)
  · exact ⟨100, by simp [ths], by rw [cnt_top g (by omega), cnt_top g (by omega)]⟩
theorem cst_cnt {T : List Th} {a b t u : Int} (h : cnt T t = cnt T u) : cst T a b t = cst T a b u := by
  unfold cst
  have e1 : fa T t = fa T u := congrArg Prod.fst h
  have e2 : tr T t = tr T u := congrArg Prod.snd h
  rw [e1, e2]
def lcs (T : List Th) (a b : Int) : Int := minL (cst T a b 100) ((scs T).map (cst T a b))
theorem lcs_le {T : List Th} (g : GoodT T) {a b t : Int} (h : 0 ≤ t) : lcs T a b ≤ cst T a b t := by
  obtain ⟨u, hu, e⟩ := cnt_ths g h
  rw [cst_cnt e]
  have := minL_le ((scs T).map (cst T a b)) (cst T a b 100)
  rcases List.mem_cons.mp hu with z | z
  · rw [z]; exact this.1
  · exact this.2.1 _ (List.mem_map.mpr ⟨u, z, rfl⟩)
theorem lcs_mem {T : List Th} (g : GoodT T) (a b : Int) : ∃ t, 0 ≤ t ∧ t ≤ 100 ∧ lcs T a b = cst T a b t ∧ t ∈ ths T := by
  have := minL_le ((scs T).map (cst T a b)) (cst T a b 100)
  rcases this.2.2 with e | e
  · exact ⟨100, by decide, by decide, e, by simp [ths]⟩
  · obtain ⟨t, ht, e⟩ := List.mem_map.mp e
    obtain ⟨x, hx, q⟩ := mem_scs.mp ht
    have := g.sc x hx
    exact ⟨t, by omega, by omega, e.symm, by simp [ths, ht]⟩
end DL

namespace KK
open PySem PySem.Spec PyProof.Rows L2 DL
abbrev Env := DL.Env
local macro_rules | `(tactic| walk_at "ev") => `(tactic| simp only [szL, Nat.reduceLeDiff, mBody, mBodyD, outP, outD, cVar, cC, cOp, cUn, cTest, cAndT, cOrT, cNotT, cAndV, cOrV, cIf, aNil, aCons, cTup, cLst, cSl, oNone, oSome, cCall, cCallF, cCallD, cMeth, noX', isL_list, isL_encP, tYesD, bnd_ok, bnd_exc, bnd_bad, lft_ok, lft_exc, lft_bad, isOk_ok, isOk_exc, isOk_bad, isD_int, isD_bool, isD_none, isD_str, isD_list, isD_tuple, isD_eP, isD_eT, isD_encP, isD_encT, allD, List.all_cons, List.all_nil, Bool.and_self, Bool.and_true, Bool.true_and, if_true, if_false, Bool.false_eq_true, ite_true, ite_false, reduceIte, List.length_cons, List.length_nil, List.map_cons, List.map_nil, List.cons_append, List.nil_append, List.replicate_succ, List.replicate_zero, List.getElem?_cons_zero, List.getElem?_cons_succ, List.set_cons_zero, List.set_cons_succ, wipeD, sSeq, sSet, sAsg, sRet, sIf, sExpr, sNil, sRaise, sSetF, sApp, sAug, sAugL, sPar, sPar3, fLst, bNm, bTup, bCons, bNil, pNot, pIsi, isiT, tyN, pNeg, Nat.reduceAdd, decide_true, decide_false, Bool.not_true, Bool.not_false, noX_ok, pLe_i, pLt_i, pGt_i, pGe_i, pAdd_i, pSub_i, pLen_l, pLen_t, pIx_t0, pIx_t1, pEq_i, pNe_i])
local macro_rules | `(tactic| walk_at "evs") => `(tactic| simp [szL, mBody, mBodyD, outP, outD, cVar, cC, cOp, cUn, cTest, cAndT, cOrT, cNotT, cAndV, cOrV, cIf, aNil, aCons, cTup, cLst, cSl, oNone, oSome, cCall, cCallF, cCallD, cMeth, noX', isL_list, isL_encP, tYesD, bnd_ok, bnd_exc, bnd_bad, lft_ok, lft_exc, lft_bad, isOk_ok, isOk_exc, isOk_bad, isD_int, isD_bool, isD_none, isD_str, isD_list, isD_tuple, isD_eP, isD_eT, isD_encP, isD_encT, allD, List.all_cons, List.all_nil, List.map_cons, List.map_nil, List.cons_append, List.nil_append, List.replicate_succ, List.replicate_zero, List.getElem?_cons_zero, List.getElem?_cons_succ, List.set_cons_zero, List.set_cons_succ, wipeD, sSeq, sSet, sAsg, sRet, sIf, sExpr, sNil, sRaise, sSetF, sApp, sAug, sAugL, sPar, sPar3, fLst, bNm, bTup, bCons, bNil, pNot, pIsi, isiT, tyN, pNeg, noX_ok, pLe_i, pLt_i, pGt_i, pGe_i, pAdd_i, pSub_i, pLen_l, pLen_t, pIx_t0, pIx_t1, pEq_i, pNe_i])
local macro_rules | `(tactic| walk_at "evx") => `(tactic| simp [szL, mBody, mBodyD, outP, outD, cVar, cC, cOp, cUn, cTest, cAndT, cOrT, cNotT, cAndV, cOrV, cIf, aNil, aCons, cTup, cLst, cSl, oNone, oSome, cCall, cCallF, cCallD, cMeth, noX', isL_list, isL_encP, tYesD, bnd_ok, bnd_exc, bnd_bad, lft_ok, lft_exc, lft_bad, isOk_ok, isOk_exc, isOk_bad, isD_int, isD_bool, isD_none, isD_str, isD_list, isD_tuple, isD_eP, isD_eT, isD_encP, isD_encT, allD, List.all_cons, List.all_nil, List.map_cons, List.map_nil, List.cons_append, List.nil_append, List.replicate_succ, List.replicate_zero, List.getElem?_cons_zero, List.getElem?_cons_succ, List.set_cons_zero, List.set_cons_succ, wipeD, sSeq, sSet, sAsg, sRet, sIf, sExpr, sNil, sRaise, sSetF, sApp, sAug, sAugL, sPar, sPar3, fLst, bNm, bTup, bCons, bNil, pNot, pIsi, isiT, tyN, pNeg, noX_ok, pLe_i, pLt_i, pGt_i, pGe_i, pAdd_i, pSub_i, pLen_l, pLen_t, pIx_t0, pIx_t1, pEq_i, pNe_i, *])
def b__law_call {d : Type} : Env → d → R (Fl × d) :=
      (sSeq (sIf (cTest (cOp pEq (cVar 0) (cC (.int 0))))
      (sRet (cCallF 1 m_hull_of (aCons (cVar 1) aNil)))
      sNil)
      (sSeq (sIf (cTest (cOp pEq (cVar 0) (cC (.int 1))))
      (sRet (cCallF 1 m_things_with (aCons (cVar 1) aNil)))
      sNil)
      (sSeq (sIf (cTest (cOp pEq (cVar 0) (cC (.int 2))))
      (sRet (cCallF 1 m_format_points (aCons (cVar 1) aNil)))
      sNil)
      (sSeq (sIf (cTest (cOp pEq (cVar 0) (cC (.int 3))))
      (sRet (cCallF 2 m_hull_height (aCons (cVar 1) (aCons (cVar 2) aNil))))
      sNil)
      (sSeq (sIf (cTest (cOp pEq (cVar 0) (cC (.int 4))))
      (sRet (cCallF 2 m_is_above (aCons (cVar 1) (aCons (cVar 2) aNil))))
      sNil)
      (sSeq (sIf (cTest (cOp pEq (cVar 0) (cC (.int 5))))
      (sRet (cCallF 2 m_first_below (aCons (cVar 1) (aCons (cVar 2) aNil))))
      sNil)
      (sSeq (sIf (cTest (cOp pEq (cVar 0) (cC (.int 6))))
      (sRet (cCallF 2 m_area_difference (aCons (cVar 1) (aCons (cVar 2) aNil))))
      sNil)
      (sSeq (sIf (cTest (cOp pEq (cVar 0) (cC (.int 7))))
      (sRet (cCallF 2 m_led (aCons (cVar 1) (aCons (cVar 2) aNil))))
      sNil)
      (sSeq (sIf (cTest (cOp pEq (cVar 0) (cC (.int 8))))
      (sRet (cCallF 2 m_joined (aCons (cVar 1) (aCons (cVar 2) aNil))))
      sNil)
      (sSeq (sIf (cTest (cOp pEq (cVar 0) (cC (.int 9))))
      (sRet (cCallF 4 m_mixed_alarms (aCons (cLst (aCons (cTup (aCons (cC (.int 1)) (aCons (cC (.bool true)) aNil))) aNil)) (aCons (cC (.int 0)) (aCons (cC (.int 0)) (aCons (cVar 1) aNil))))))
      sNil)
      (sSeq (sIf (cTest (cOp pEq (cVar 0) (cC (.int 10))))
      (sRet (cCallF 2 m_count_curves (aCons (cVar 1) (aCons (cVar 2) aNil))))
      sNil)
      (sSeq (sIf (cTest (cOp pEq (cVar 0) (cC (.int 11))))
      (sRet (cCallF 2 m_all_curves (aCons (cVar 1) (aCons (cVar 2) aNil))))
      sNil)
      (sSeq (sIf (cTest (cOp pEq (cVar 0) (cC (.int 12))))
      (sRet (cCallF 3 m_curve_at (aCons (cVar 1) (aCons (cVar 2) (aCons (cVar 3) aNil)))))
      sNil)
      (sSeq (sIf (cTest (cOp pEq (cVar 0) (cC (.int 13))))
      (sMkW (cVar 1))
      sNil)
      (sSeq (sIf (cTest (cOp pEq (cVar 0) (cC (.int 14))))
      sBad
      sNil)
      sBad)))))))))))))))
def m__law_call : List PD → R PD := mBody 0 b__law_call
def c__law_call : Env → Unit × Wt → RX (Fl × (Unit × Wt)) (Unit × Wt) :=
      (xSkip (cTest (cOp pEq (cVar 0) (cC (.int 0))))
      (xSkip (cTest (cOp pEq (cVar 0) (cC (.int 1))))
      (xSkip (cTest (cOp pEq (cVar 0) (cC (.int 2))))
      (xSkip (cTest (cOp pEq (cVar 0) (cC (.int 3))))
      (xSkip (cTest (cOp pEq (cVar 0) (cC (.int 4))))
      (xSkip (cTest (cOp pEq (cVar 0) (cC (.int 5))))
      (xSkip (cTest (cOp pEq (cVar 0) (cC (.int 6))))
      (xSkip (cTest (cOp pEq (cVar 0) (cC (.int 7))))
      (xSkip (cTest (cOp pEq (cVar 0) (cC (.int 8))))
      (xSkip (cTest (cOp pEq (cVar 0) (cC (.int 9))))
      (xSkip (cTest (cOp pEq (cVar 0) (cC (.int 10))))
      (xSkip (cTest (cOp pEq (cVar 0) (cC (.int 11))))
      (xSkip (cTest (cOp pEq (cVar 0) (cC (.int 12))))
      (xSkip (cTest (cOp pEq (cVar 0) (cC (.int 13))))
      (xThen (cTest (cOp pEq (cVar 0) (cC (.int 14)))) (xMeth 2 m_push (cVar 1) (aCons (cVar 2) aNil))
      (xRet (xIfE (cTest (cOp pEq (cVar 0) (cC (.int 15)))) (xMeth 2 m_W_move (cVar 1) (aCons (cVar 2) aNil)) (xMeth0 m_undo (cVar 1)))))))))))))))))))
def x__law_call : List PD → Wt → RX (PD × Wt) Wt := mBodyX 0 c__law_call
def b__law_asked {d : Type} : Env → d → R (Fl × d) :=
      (sSeq (sSet 4 (cC .none))
      (sTry (sExpr (cCallF 4 m__law_call (aCons (cVar 0) (aCons (cVar 1) (aCons (cVar 2) (aCons (cVar 3) aNil)))))) 4 (cC (.str "done")) errN))
def m__law_asked : List PD → R PD := mBody 2 b__law_asked
def c__law_asked : Env → Unit × Wt → R (Fl × (Unit × Wt)) :=
      (sSeq (sSet 4 (cC .none))
      (sTryX (xCallX 4 x__law_call (aCons (cVar 0) (aCons (cVar 1) (aCons (cVar 2) (aCons (cVar 3) aNil))))) 4 (cC (.str "done")) errN))
def n__law_asked : List PD → Wt → R (PD × Wt) := mBodyO 2 c__law_asked
def b__law_watch : Env → Unit → R (Fl × Unit) :=
      (sSeq (sIf (cTest (cOp pNe (cComp (iTp (cTup (aCons (cC .none) (aCons (cOp pSub (cC (.int 0)) (cC (.int 1))) (aCons (cC (.int 101)) (aCons (cC (.bool true)) (aCons (cC (.str "1")) (aCons (cC (.int 0)) (aCons (cC (.int 100)) aNil))))))))) (bNm 1) [1] tYesD (cCallF 4 m__law_asked (aCons (cC (.int 13)) (aCons (cVar 1) (aCons (cC (.int 0)) (aCons (cC (.int 0)) aNil)))))) (cOp pAdd (cOp pMul (cLst (aCons (cC (.str "number")) aNil)) (cC (.int 5))) (cOp pMul (cLst (aCons (cC (.str "done")) aNil)) (cC (.int 2))))))
      (sRet (cC (.bool false)))
      sNil)
      (sNewW 0 (cC (.int 6))
      (sSeq (sFor (iLst (cLst (aCons (cC .none) (aCons (cC (.int 5)) (aCons (cTup (aCons (cC (.int 1)) aNil)) (aCons (cLst (aCons (cC (.int 1)) (aCons (cC (.bool true)) aNil))) (aCons (cTup (aCons (cC (.int 100)) (aCons (cC (.bool true)) aNil))) (aCons (cTup (aCons (cC (.bool true)) (aCons (cC (.bool true)) aNil))) (aCons (cTup (aCons (cC (.int 1)) (aCons (cC (.int 1)) aNil))) (aCons (cTup (aCons (cC (.int 1)) (aCons (cC (.bool true)) (aCons (cC (.int 0)) aNil)))) aNil)))))))))) (bNm 1)
      (sIf (cTest (cOp pNe (cCallW 4 n__law_asked (aCons (cC (.int 14)) (aCons (cVar 0) (aCons (cVar 1) (aCons (cC (.int 0)) aNil))))) (cC (.str "things"))))
      (sRet (cC (.bool false)))
      sNil))
      (sSeq (sIf (cOrT (cTest (cOp pNe (cComp (iTp (cTup (aCons (cC .none) (aCons (cOp pSub (cC (.int 0)) (cC (.int 1))) (aCons (cC (.int 101)) (aCons (cC (.bool true)) aNil)))))) (bNm 1) [1] tYesD (cCallW 4 n__law_asked (aCons (cC (.int 15)) (aCons (cVar 0) (aCons (cVar 1) (aCons (cC (.int 0)) aNil)))))) (cOp pMul (cLst (aCons (cC (.str "number")) aNil)) (cC (.int 4))))) (cTest (cOp pNe (cCallW 4 n__law_asked (aCons (cC (.int 16)) (aCons (cVar 0) (aCons (cC (.int 0)) (aCons (cC (.int 0)) aNil))))) (cC (.str "none")))))
      (sRet (cC (.bool false)))
      sNil)
      (sSeq (sIf (cOrT (cTest (cOp pNe (cMethW0 m_W_counts (cVar 0)) (cTup (aCons (cC (.int 0)) (aCons (cC (.int 0)) (aCons (cC (.int 0)) (aCons (cC (.int 0)) aNil))))))) (cOrT (cTest (cOp pIsNot (cMethW 2 m_push (cVar 0) (aCons (cTup (aCons (cC (.int 7)) (aCons (cC (.bool false)) aNil))) aNil)) (cC (.bool true)))) (cTest (cOp pIsNot (cMethW 2 m_push (cVar 0) (aCons (cTup (aCons (cC (.int 5)) (aCons (cC (.bool true)) aNil))) aNil)) (cC (.bool false))))))
      (sRet (cC (.bool false)))
      sNil)
      (sSeq (sIf (cOrT (cTest (cOp pNe (cMethW0 m_W_counts (cVar 0)) (cTup (aCons (cC (.int 1)) (aCons (cC (.int 0)) (aCons (cC (.int 1)) (aCons (cC (.int 0)) aNil))))))) (cOrT (cTest (cOp pNe (cMethW 2 m_W_move (cVar 0) (aCons (cC (.int 5)) aNil)) (cC (.int 1)))) (cOrT (cTest (cOp pNe (cMethW0 m_W_counts (cVar 0)) (cTup (aCons (cC (.int 1)) (aCons (cC (.int 1)) (aCons (cC (.int 0)) (aCons (cC (.int 0)) aNil))))))) (cTest (cOp pNe (cMethW 2 m_W_move (cVar 0) (aCons (cC (.int 100)) aNil)) (cC (.int 2)))))))
      (sRet (cC (.bool false)))
      sNil)
      (sRet (cAndV (cOp pEq (cMethW0 m_undo (cVar 0)) (cTup (aCons (cC (.int 5)) (aCons (cC (.bool true)) aNil)))) (cAndV (cOp pEq (cMethW0 m_W_counts (cVar 0)) (cTup (aCons (cC (.int 0)) (aCons (cC (.int 0)) (aCons (cC (.int 0)) (aCons (cC (.int 1)) aNil)))))) (cOp pEq (cLenW (cVar 0)) (cC (.int 1))))))))))))
def m__law_watch : List PD → R PD := mBody0 2 b__law_watch
def b__law_lists {d : Type} : Env → d → R (Fl × d) :=
      (sSeq (sFor (iLst (cLst (aCons (cC .none) (aCons (cOp pSub (cC (.int 0)) (cC (.int 1))) (aCons (cC (.int 5)) (aCons (cC (.bool true)) (aCons (cC (.str "1")) aNil))))))) (bNm 0)
      (sIf (cOrT (cTest (cOp pNe (cComp (iTp (cTup (aCons (cC (.int 10)) (aCons (cC (.int 11)) (aCons (cC (.int 12)) aNil))))) (bNm 3) [3] tYesD (cCallF 4 m__law_asked (aCons (cVar 3) (aCons (cVar 0) (aCons (cC (.int 1)) (aCons (cC (.int 0)) aNil)))))) (cOp pMul (cLst (aCons (cC (.str "number")) aNil)) (cC (.int 3))))) (cTest (cOp pNe (cComp (iTp (cTup (aCons (cC (.int 10)) (aCons (cC (.int 11)) (aCons (cC (.int 12)) aNil))))) (bNm 3) [3] tYesD (cCallF 4 m__law_asked (aCons (cVar 3) (aCons (cC (.int 1)) (aCons (cVar 0) (aCons (cC (.int 0)) aNil)))))) (cOp pMul (cLst (aCons (cC (.str "number")) aNil)) (cC (.int 3))))))
      (sRet (cC (.bool false)))
      sNil))
      (sSeq (sIf (cOrT (cTest (cOp pNe (cComp (iTp (cTup (aCons (cC (.int 10)) (aCons (cC (.int 11)) (aCons (cC (.int 12)) aNil))))) (bNm 3) [3] tYesD (cCallF 4 m__law_asked (aCons (cVar 3) (aCons (cC (.int 0)) (aCons (cC (.int 0)) (aCons (cC (.int 0)) aNil)))))) (cOp pMul (cLst (aCons (cC (.str "number")) aNil)) (cC (.int 3))))) (cTest (cOp pNe (cComp (iTp (cTup (aCons (cC (.int 10)) (aCons (cC (.int 11)) (aCons (cC (.int 12)) aNil))))) (bNm 3) [3] tYesD (cCallF 4 m__law_asked (aCons (cVar 3) (aCons (cC (.int 4)) (aCons (cC (.int 3)) (aCons (cC (.int 0)) aNil)))))) (cLst (aCons (cC (.str "done")) (aCons (cC (.str "number")) (aCons (cC (.str "number")) aNil)))))))
      (sRet (cC (.bool false)))
      sNil)
      (sSeq (sIf (cOrT (cTest (cOp pNe (cComp (iTp (cTup (aCons (cC (.int 10)) (aCons (cC (.int 11)) (aCons (cC (.int 12)) aNil))))) (bNm 3) [3] tYesD (cCallF 4 m__law_asked (aCons (cVar 3) (aCons (cC (.int 3)) (aCons (cC (.int 4)) (aCons (cC (.int 0)) aNil)))))) (cLst (aCons (cC (.str "done")) (aCons (cC (.str "number")) (aCons (cC (.str "number")) aNil)))))) (cTest (cOp pNe (cComp (iTp (cTup (aCons (cC (.int 10)) (aCons (cC (.int 11)) (aCons (cC (.int 12)) aNil))))) (bNm 3) [3] tYesD (cCallF 4 m__law_asked (aCons (cVar 3) (aCons (cC (.int 0)) (aCons (cC (.int 3)) (aCons (cC (.int 0)) aNil)))))) (cOp pMul (cLst (aCons (cC (.str "done")) aNil)) (cC (.int 3))))))
      (sRet (cC (.bool false)))
      sNil)
      (sSeq (sSet 1 (cComp (iTp (cTup (aCons (cC .none) (aCons (cC (.int 3)) (aCons (cOp pSub (cC (.int 0)) (cC (.int 1))) (aCons (cC (.bool true)) (aCons (cC (.str "0")) (aCons (cC (.int 0)) (aCons (cC (.int 2)) aNil))))))))) (bNm 2) [2] tYesD (cCallF 4 m__law_asked (aCons (cC (.int 12)) (aCons (cC (.int 1)) (aCons (cC (.int 1)) (aCons (cVar 2) aNil)))))))
      (sRet (cAndV (cOp pEq (cVar 1) (cOp pAdd (cOp pMul (cLst (aCons (cC (.str "number")) aNil)) (cC (.int 5))) (cOp pMul (cLst (aCons (cC (.str "done")) aNil)) (cC (.int 2))))) (cOp pGt (cCallF 2 m_count_curves (aCons (cC (.int 4)) (aCons (cC (.int 4)) aNil))) (cC (.int 0)))))))))
def m__law_lists : List PD → R PD := mBody 4 b__law_lists
def b_law : Env → Dr → R (Fl × Dr) :=
      (sSeq (sSet 2 (cLst (aCons (cTup (aCons (cC (.int 0)) (aCons (cC (.int 0)) aNil))) (aCons (cTup (aCons (cC (.int 0)) (aCons (cC (.int 1)) aNil))) (aCons (cTup (aCons (cC (.int 1)) (aCons (cC (.int 1)) aNil))) aNil)))))
      (sSeq (sSet 3 (cLst (aCons (cC .none) (aCons (cC (.int 5)) (aCons (cTup aNil) (aCons (cLst aNil) (aCons (cLst (aCons (cTup (aCons (cC (.int 0)) (aCons (cC (.int 0)) aNil))) aNil)) (aCons (cLst (aCons (cTup (aCons (cC (.int 0)) (aCons (cC (.int 1)) aNil))) (aCons (cTup (aCons (cC (.int 1)) (aCons (cC (.int 1)) aNil))) aNil))) (aCons (cTup (aCons (cTup (aCons (cC (.int 0)) (aCons (cC (.int 0)) aNil))) (aCons (cTup (aCons (cC (.int 1)) (aCons (cC (.int 1)) aNil))) aNil))) (aCons (cLst (aCons (cTup (aCons (cC (.int 0)) (aCons (cC (.int 0)) aNil))) (aCons (cTup (aCons (cC (.int 0)) (aCons (cC (.int 0)) aNil))) aNil))) (aCons (cLst (aCons (cTup (aCons (cC (.int 0)) (aCons (cC (.int 0)) aNil))) (aCons (cTup (aCons (cC (.int 1)) (aCons (cC (.int 1)) aNil))) (aCons (cTup (aCons (cC (.int 0)) (aCons (cC (.int 2)) aNil))) aNil)))) (aCons (cLst (aCons (cTup (aCons (cC (.int 0)) (aCons (cC (.int 0)) aNil))) (aCons (cTup (aCons (cC (.int 1)) (aCons (cC (.int 1)) aNil))) (aCons (cTup (aCons (cC (.int 2)) (aCons (cC (.int 0)) aNil))) aNil)))) (aCons (cLst (aCons (cTup (aCons (cC (.int 0)) (aCons (cC (.int 0)) aNil))) (aCons (cLst (aCons (cC (.int 1)) (aCons (cC (.int 1)) aNil))) aNil))) (aCons (cLst (aCons (cTup (aCons (cC (.int 0)) (aCons (cC (.int 0)) aNil))) (aCons (cTup (aCons (cC (.int 1)) aNil)) aNil))) (aCons (cLst (aCons (cTup (aCons (cC (.int 0)) (aCons (cC (.int 0)) aNil))) (aCons (cTup (aCons (cC (.int 13)) (aCons (cC (.int 0)) aNil))) aNil))) (aCons (cLst (aCons (cTup (aCons (cC (.int 0)) (aCons (cC (.int 0)) aNil))) (aCons (cTup (aCons (cC (.int 7)) (aCons (cC (.int 6)) aNil))) aNil))) (aCons (cLst (aCons (cTup (aCons (cC (.int 0)) (aCons (cC (.int 0)) aNil))) (aCons (cTup (aCons (cC (.bool true)) (aCons (cC (.int 1)) aNil))) aNil))) (aCons (cLst (aCons (cTup (aCons (cC (.int 0)) (aCons (cC (.int 0)) aNil))) (aCons (cTup (aCons (cC (.str "1")) (aCons (cC (.int 1)) aNil))) aNil))) (aCons (cLst (aCons (cTup (aCons (cC (.int 0)) (aCons (cC (.int 0)) aNil))) (aCons (cC .none) aNil))) aNil)))))))))))))))))))
      (sSeq (sFor (iLst (cVar 3)) (bNm 4)
      (sSeq (sIf (cOrT (cTest (cOp pIsNot (cCallF 1 m_is_points (aCons (cVar 4) aNil)) (cC (.bool false)))) (cTest (cOp pNe (cComp (iRg1 (aCons (cC (.int 7)) aNil)) (bNm 8) [8] tYesD (cCallF 4 m__law_asked (aCons (cVar 8) (aCons (cVar 4) (aCons (cC .none) (aCons (cC (.int 0)) aNil)))))) (cOp pMul (cLst (aCons (cC (.str "points")) aNil)) (cC (.int 7))))))
      (sRet (cC (.bool false)))
      sNil)
      (sIf (cTest (cOp pNe (cComp (iTp (cTup (aCons (cC (.int 4)) (aCons (cC (.int 5)) (aCons (cC (.int 6)) aNil))))) (bNm 8) [8] tYesD (cCallF 4 m__law_asked (aCons (cVar 8) (aCons (cVar 2) (aCons (cVar 4) (aCons (cC (.int 0)) aNil)))))) (cOp pMul (cLst (aCons (cC (.str "points")) aNil)) (cC (.int 3)))))
      (sRet (cC (.bool false)))
      sNil)))
      (sSeq (sIf (cOrT (cTest (cOp pIsNot (cCallF 1 m_is_points (aCons (cVar 2) aNil)) (cC (.bool true)))) (cOrT (cTest (cOp pIsNot (cCallF 1 m_is_points (aCons (cLst (aCons (cTup (aCons (cC (.int 0)) (aCons (cC (.int 0)) aNil))) (aCons (cTup (aCons (cC (.int 6)) (aCons (cC (.int 6)) aNil))) aNil))) aNil)) (cC (.bool true)))) (cTest (cOp pNe (cComp (iTp (cTup (aCons (cC (.int 4)) (aCons (cC (.int 5)) (aCons (cC (.int 6)) aNil))))) (bNm 8) [8] tYesD (cCallF 4 m__law_asked (aCons (cVar 8) (aCons (cVar 2) (aCons (cLst (aCons (cTup (aCons (cC (.int 0)) (aCons (cC (.int 0)) aNil))) (aCons (cTup (aCons (cC (.int 1)) (aCons (cC (.int 2)) aNil))) aNil))) (aCons (cC (.int 0)) aNil)))))) (cOp pMul (cLst (aCons (cC (.str "points")) aNil)) (cC (.int 3)))))))
      (sRet (cC (.bool false)))
      sNil)
      (sSeq (sFor (iLst (cLst (aCons (cC .none) (aCons (cC (.int 5)) (aCons (cTup (aCons (cC (.int 1)) aNil)) (aCons (cLst (aCons (cC (.int 1)) (aCons (cC (.int 2)) aNil))) (aCons (cTup (aCons (cC (.int 1)) (aCons (cC (.int 0)) aNil))) (aCons (cTup (aCons (cC (.int 2)) (aCons (cC (.int 4)) aNil))) (aCons (cTup (aCons (cOp pSub (cC (.int 0)) (cC (.int 1))) (aCons (cC (.int 2)) aNil))) (aCons (cTup (aCons (cC (.int 3)) (aCons (cC (.int 2)) aNil))) (aCons (cTup (aCons (cC (.int 1)) (aCons (cC (.int 1001)) aNil))) (aCons (cTup (aCons (cC (.bool true)) (aCons (cC (.int 1)) aNil))) aNil)))))))))))) (bNm 4)
      (sIf (cOrT (cTest (cOp pNe (cCallF 4 m__law_asked (aCons (cC (.int 3)) (aCons (cVar 2) (aCons (cVar 4) (aCons (cC (.int 0)) aNil))))) (cC (.str "number")))) (cTest (cOp pNe (cCallF 4 m__law_asked (aCons (cC (.int 9)) (aCons (cVar 4) (aCons (cC (.int 0)) (aCons (cC (.int 0)) aNil))))) (cC (.str "number")))))
      (sRet (cC (.bool false)))
      sNil))
      (sSeq (sIf (cTest (cOp pNe (cComp (iTp (cTup (aCons (cTup (aCons (cC (.int 0)) (aCons (cC (.int 1)) aNil))) (aCons (cTup (aCons (cC (.int 1)) (aCons (cC (.int 1)) aNil))) (aCons (cTup (aCons (cC (.int 1)) (aCons (cC (.int 1000)) aNil))) aNil))))) (bNm 7) [7] tYesD (cCallF 4 m__law_asked (aCons (cC (.int 3)) (aCons (cVar 2) (aCons (cVar 7) (aCons (cC (.int 0)) aNil)))))) (cOp pMul (cLst (aCons (cC (.str "done")) aNil)) (cC (.int 3)))))
      (sRet (cC (.bool false)))
      sNil)
      (sSeq (sIf (cTest (cOp pNe (cComp (iTp (cTup (aCons (cTup (aCons (cC (.int 0)) (aCons (cC (.int 1)) aNil))) (aCons (cTup (aCons (cC (.int 1)) (aCons (cC (.int 1)) aNil))) (aCons (cTup (aCons (cC (.int 999)) (aCons (cC (.int 1000)) aNil))) aNil))))) (bNm 7) [7] tYesD (cCallF 4 m__law_asked (aCons (cC (.int 9)) (aCons (cVar 7) (aCons (cC (.int 0)) (aCons (cC (.int 0)) aNil)))))) (cOp pMul (cLst (aCons (cC (.str "done")) aNil)) (cC (.int 3)))))
      (sRet (cC (.bool false)))
      sNil)
      (sSeq (sSet 5 (cLst (aCons (cTup (aCons (cC (.int 9)) (aCons (cC (.bool true)) aNil))) (aCons (cTup (aCons (cCallD 2 m__law_draw (aCons (cVar 1) (aCons (cC (.int 99)) aNil))) (aCons (cC (.bool false)) aNil))) aNil))))
      (sSeq (sSet 6 (cC (.tuple (rngL 0 1 100))))
      (sSeq (sFor (iLst (cLst (aCons (cC .none) (aCons (cC (.int 5)) (aCons (cCall pList (aCons (cVar 6) aNil)) (aCons (cSl pSl (cVar 6) oNone (oSome (cC (.int 99)))) (aCons (cOp pAdd (cVar 6) (cTup (aCons (cC (.int 99)) aNil))) (aCons (cUn pRevT (cVar 6)) (aCons (cOp pAdd (cSl pSl (cVar 6) oNone (oSome (cC (.int 98)))) (cTup (aCons (cC (.int 99)) (aCons (cC (.int 98)) aNil)))) (aCons (cOp pAdd (cSl pSl (cVar 6) oNone (oSome (cC (.int 99)))) (cTup (aCons (cC (.int 100)) aNil))) (aCons (cOp pAdd (cTup (aCons (cC (.bool true)) aNil)) (cSl pSl (cVar 6) (oSome (cC (.int 1))) oNone)) (aCons (cOp pAdd (cTup (aCons (cOp pSub (cC (.int 0)) (cC (.int 1))) aNil)) (cSl pSl (cVar 6) (oSome (cC (.int 1))) oNone)) aNil)))))))))))) (bNm 4)
      (sIf (cTest (cOp pNe (cCallF 4 m__law_asked (aCons (cC (.int 7)) (aCons (cVar 5) (aCons (cVar 4) (aCons (cC (.int 0)) aNil))))) (cC (.str "number"))))
      (sRet (cC (.bool false)))
      sNil))
      (sSeq (sIf (cOrT (cTest (cOp pNe (cCallF 4 m__law_asked (aCons (cC (.int 7)) (aCons (cC .none) (aCons (cC .none) (aCons (cC (.int 0)) aNil))))) (cC (.str "things")))) (cOrT (cTest (cOp pNe (cCallF 4 m__law_asked (aCons (cC (.int 8)) (aCons (cVar 5) (aCons (cC .none) (aCons (cC (.int 0)) aNil))))) (cC (.str "things")))) (cTest (cOp pNe (cCallF 4 m__law_asked (aCons (cC (.int 8)) (aCons (cVar 5) (aCons (cOp pMul (cVar 5) (cC (.int 6))) (aCons (cC (.int 0)) aNil))))) (cC (.str "things"))))))
      (sRet (cC (.bool false)))
      sNil)
      (sRet (cAndV (cOp pEq (cCallF 4 m__law_asked (aCons (cC (.int 8)) (aCons (cVar 5) (aCons (cOp pMul (cVar 5) (cC (.int 5))) (aCons (cC (.int 0)) aNil))))) (cC (.str "done"))) (cAndV (fun _ s => lft (m__law_lists []) s) (fun _ s => lft (m__law_watch []) s)))))))))))))))

def GOODd : PD := (.list [(.tuple [(.int (0)), (.int (0))]), (.tuple [(.int (0)), (.int (1))]), (.tuple [(.int (1)), (.int (1))])])
def ODDd : PD := (.list [.none, (.int (5)), (.tuple []), (.list []), (.list [(.tuple [(.int (0)), (.int (0))])]), (.list [(.tuple [(.int (0)), (.int (1))]), (.tuple [(.int (1)), (.int (1))])]), (.tuple [(.tuple [(.int (0)), (.int (0))]), (.tuple [(.int (1)), (.int (1))])]), (.list [(.tuple [(.int (0)), (.int (0))]), (.tuple [(.int (0)), (.int (0))])]), (.list [(.tuple [(.int (0)), (.int (0))]), (.tuple [(.int (1)), (.int (1))]), (.tuple [(.int (0)), (.int (2))])]), (.list [(.tuple [(.int (0)), (.int (0))]), (.tuple [(.int (1)), (.int (1))]), (.tuple [(.int (2)), (.int (0))])]), (.list [(.tuple [(.int (0)), (.int (0))]), (.list [(.int (1)), (.int (1))])]), (.list [(.tuple [(.int (0)), (.int (0))]), (.tuple [(.int (1))])]), (.list [(.tuple [(.int (0)), (.int (0))]), (.tuple [(.int (13)), (.int (0))])]), (.list [(.tuple [(.int (0)), (.int (0))]), (.tuple [(.int (7)), (.int (6))])]), (.list [(.tuple [(.int (0)), (.int (0))]), (.tuple [(.bool true), (.int (1))])]), (.list [(.tuple [(.int (0)), (.int (0))]), (.tuple [(.str "1"), (.int (1))])]), (.list [(.tuple [(.int (0)), (.int (0))]), .none])])
def LO : PD := (.list [(.tuple [(.int (0)), (.int (0))]), .none])
def L2d : PD := (.tuple [(.bool true), (.int (1))])
def RISE : PD := .tuple (rngL 0 1 100)
def TH (x : Int) : PD := .list [.tuple [.int 9, .bool true], .tuple [.int x, .bool false]]
abbrev en (b4 t5 r6 : Option PD) : Env := [none, some (tokD 0), some GOODd, some ODDd, b4, t5, r6, none, none]
def BADS : List PD := [.none, .int 5, .list (rngL 0 1 100), .tuple (rngL 0 1 99), .tuple (rngL 0 1 100 ++ [.int 99]), .tuple (rngL 0 1 100).reverse, .tuple (rngL 0 1 98 ++ [.int 99, .int 98]), .tuple (rngL 0 1 99 ++ [.int 100]), .tuple (.bool true :: rngL 1 1 99), .tuple (.int (-1) :: rngL 1 1 99)]
def isS (q : Str) : R PD → Bool
  | .ok (.str s) => decide (s = q)
  | _ => false
theorem isS_eq {q : Str} {r : R PD} (h : isS q r = true) : r = .ok (.str q) := by
  unfold isS at h
  split at h
  · rw [of_decide_eq_true h]
  · cases h
theorem lists_t : m__law_lists [] = .ok (.bool true) := by kernel_rfl
theorem watch_t : m__law_watch [] = .ok (.bool true) := by kernel_rfl
theorem sTry_exc {d : Type} {fb : Env → d → R (Fl × d)} {j : Nat} {fe : Env → d → R (PD × d)} {nm : Nat → Str} {ρ : Env} {s : d} {c : Nat} (h : fb ρ s = .exc c) (hc : c < 5) : sTry fb j fe nm ρ s = .ok (.rt (.str (nm c)), s) := by
  unfold sTry
  rw [h]
  dsimp only
  rw [if_pos hc]
theorem mBody_exc {n : Nat} {f : Env → Unit → R (Fl × Unit)} {ds : List PD} {c : Nat} (h : f (ds.map some ++ List.replicate n none) () = .exc c) : mBody n f ds = .exc c := by
  unfold mBody
  rw [h]
  rfl
theorem ret_exc {d : Type} {n : Nat} {m : List PD → R PD} {as : Env → d → R (List PD × d)} {ρ : Env} {s s1 : d} {xs : List PD} {c : Nat} (ha : as ρ s = .ok (xs, s1)) (hm : m xs = .exc c) (hn : xs.length = n := by rfl) : sRet (cCallF n m as) ρ s = .exc c := by
  unfold sRet cCallF
  rw [ha, bnd_ok, if_pos hn, hm]
  rfl
theorem exp_exc {d : Type} {n : Nat} {m : List PD → R PD} {as : Env → d → R (List PD × d)} {ρ : Env} {s s1 : d} {xs : List PD} {c : Nat} (ha : as ρ s = .ok (xs, s1)) (hm : m xs = .exc c) (hn : xs.length = n := by rfl) : sExpr (cCallF n m as) ρ s = .exc c := by
  unfold sExpr cCallF
  rw [ha, bnd_ok, if_pos hn, hm]
  rfl
theorem seq_exc {d : Type} {f g : Env → d → R (Fl × d)} {ρ : Env} {s : d} {c : Nat} (h : f ρ s = .exc c) : sSeq f g ρ s = .exc c := by
  unfold sSeq
  rw [h]
theorem ev_andv {d : Type} {x y : Env → d → R (PD × d)} {ρ : Env} {s s1 : d} {r : R (PD × d)} (h : x ρ s = .ok (.bool true, s1)) (k : y ρ s1 = r) : cAndV x y ρ s = r := by
  unfold cAndV
  rw [h, bnd_ok]
  exact k
def ledR : Env → Unit → R (Fl × Unit) :=
      (sSeq (sIf (cOrT (cNotT (cTest (cUn (pIsi "tuple") (cVar 1)))) (cOrT (cTest (cOp pNe (cCall pLen (aCons (cVar 1) aNil)) (cC (.int 100)))) (cNotT (cTest (cCall pAll (aCons (cComp (iTp (cVar 1)) (bNm 2) [2] tYesD (cCallF 3 m_is_int (aCons (cVar 2) (aCons (cC (.int 0)) (aCons (cC (.int 99)) aNil))))) aNil))))))
      (sRaise 1)
      sNil)
      (sSeq (sIf (cNotT (cTest (cCall pAll (aCons (cComp (iRg1 (aCons (cC (.int 99)) aNil)) (bNm 4) [4] tYesD (cOp pLe (cOp pIx (cVar 1) (cVar 4)) (cOp pIx (cVar 1) (cOp pAdd (cVar 4) (cC (.int 1)))))) aNil))))
      (sRaise 1)
      sNil)
      (sRet (cComp (iLst (cVar 0)) (bTup (bCons (bNm 2) (bCons (bNm 3) bNil))) [2, 3] tYesD (cTup (aCons (cOp pIx (cVar 1) (cVar 2)) (aCons (cVar 3) aNil)))))))
theorem led_rest (x : PD) : ∀ b ∈ BADS, ledR [some x, some b, none, none, none] () = .exc 1 := by
  intro b hb
  simp only [BADS, List.mem_cons, List.not_mem_nil, or_false] at hb
  rcases hb with rfl | rfl | rfl | rfl | rfl | rfl | rfl | rfl | rfl | rfl <;> kernel_rfl
theorem goodx {x : Int} (h0 : 0 ≤ x) (h1 : x < 99) : GoodT [(9, true), (x, false)] := ⟨by simp, by simp, fun y hy => by
  simp only [List.mem_cons, List.not_mem_nil, or_false] at hy
  rcases hy with rfl | rfl <;> simp only <;> omega⟩
theorem led_exc {x : Int} (h0 : 0 ≤ x) (h1 : x < 99) : ∀ b ∈ BADS, m_led [TH x, b] = .exc 1 := fun b hb =>
  mBody_exc (ev_check (s1 := ()) (ev_callF rfl (m_check_things_eq (goodx h0 h1))) (led_rest (TH x) b hb))
theorem call7 {x b : PD} {c : Nat} (h : m_led [x, b] = .exc c) : m__law_call [.int 7, x, b, .int 0] = .exc c := by
  refine mBody_exc ?_
  unfold b__law_call
  repeat (refine ev_guard (s1 := ()) (ev_test (ev_op rfl rfl rfl)) ?_)
  exact seq_exc (ev_if_t (s' := ()) (ev_test (ev_op rfl rfl rfl)) (ret_exc rfl h))
theorem seven {x : Int} (h0 : 0 ≤ x) (h1 : x < 99) : ∀ b ∈ BADS, m__law_asked [.int 7, TH x, b, .int 0] = .ok (.str "number") := fun b hb =>
  mBody_of (ev_let (s1 := ()) rfl (sTry_exc (exp_exc rfl (call7 (led_exc h0 h1 b hb))) (by decide)))
def rep : Nat → PD → List PD
  | 0, _ => []
  | n + 1, .list xs => xs ++ rep n (.list xs)
  | _, _ => []
theorem eight : ((List.range 99).all fun n => isS "things" (m__law_asked [.int 8, TH (n : Int), .none, .int 0]) && isS "things" (m__law_asked [.int 8, TH (n : Int), .list (rep 6 (TH n)), .int 0]) && isS "done" (m__law_asked [.int 8, TH (n : Int), .list (rep 5 (TH n)), .int 0])) = true := by kernel_rfl
def lp1 : Env → Dr → R (Fl × Dr) :=
      (sFor (iLst (cVar 3)) (bNm 4)
      (sSeq (sIf (cOrT (cTest (cOp pIsNot (cCallF 1 m_is_points (aCons (cVar 4) aNil)) (cC (.bool false)))) (cTest (cOp pNe (cComp (iRg1 (aCons (cC (.int 7)) aNil)) (bNm 8) [8] tYesD (cCallF 4 m__law_asked (aCons (cVar 8) (aCons (cVar 4) (aCons (cC .none) (aCons (cC (.int 0)) aNil)))))) (cOp pMul (cLst (aCons (cC (.str "points")) aNil)) (cC (.int 7))))))
      (sRet (cC (.bool false)))
      sNil)
      (sIf (cTest (cOp pNe (cComp (iTp (cTup (aCons (cC (.int 4)) (aCons (cC (.int 5)) (aCons (cC (.int 6)) aNil))))) (bNm 8) [8] tYesD (cCallF 4 m__law_asked (aCons (cVar 8) (aCons (cVar 2) (aCons (cVar 4) (aCons (cC (.int 0)) aNil)))))) (cOp pMul (cLst (aCons (cC (.str "points")) aNil)) (cC (.int 3)))))
      (sRet (cC (.bool false)))
      sNil)))
theorem lp1_ev (s : Dr) : lp1 (en none none none) s = .ok (.nx (en (some LO) none none), s) := by kernel_rfl
def lp2 : Env → Dr → R (Fl × Dr) :=
      (sFor (iLst (cLst (aCons (cC .none) (aCons (cC (.int 5)) (aCons (cTup (aCons (cC (.int 1)) aNil)) (aCons (cLst (aCons (cC (.int 1)) (aCons (cC (.int 2)) aNil))) (aCons (cTup (aCons (cC (.int 1)) (aCons (cC (.int 0)) aNil))) (aCons (cTup (aCons (cC (.int 2)) (aCons (cC (.int 4)) aNil))) (aCons (cTup (aCons (cOp pSub (cC (.int 0)) (cC (.int 1))) (aCons (cC (.int 2)) aNil))) (aCons (cTup (aCons (cC (.int 3)) (aCons (cC (.int 2)) aNil))) (aCons (cTup (aCons (cC (.int 1)) (aCons (cC (.int 1001)) aNil))) (aCons (cTup (aCons (cC (.bool true)) (aCons (cC (.int 1)) aNil))) aNil)))))))))))) (bNm 4)
      (sIf (cOrT (cTest (cOp pNe (cCallF 4 m__law_asked (aCons (cC (.int 3)) (aCons (cVar 2) (aCons (cVar 4) (aCons (cC (.int 0)) aNil))))) (cC (.str "number")))) (cTest (cOp pNe (cCallF 4 m__law_asked (aCons (cC (.int 9)) (aCons (cVar 4) (aCons (cC (.int 0)) (aCons (cC (.int 0)) aNil))))) (cC (.str "number")))))
      (sRet (cC (.bool false)))
      sNil))
theorem lp2_ev (s : Dr) : lp2 (en (some LO) none none) s = .ok (.nx (en (some L2d) none none), s) := by kernel_rfl
theorem it3_ev (x : PD) (b4 : Option PD) (s : Dr) : (iLst (cLst (aCons (cC .none) (aCons (cC (.int 5)) (aCons (cCall pList (aCons (cVar 6) aNil)) (aCons (cSl pSl (cVar 6) oNone (oSome (cC (.int 99)))) (aCons (cOp pAdd (cVar 6) (cTup (aCons (cC (.int 99)) aNil))) (aCons (cUn pRevT (cVar 6)) (aCons (cOp pAdd (cSl pSl (cVar 6) oNone (oSome (cC (.int 98)))) (cTup (aCons (cC (.int 99)) (aCons (cC (.int 98)) aNil)))) (aCons (cOp pAdd (cSl pSl (cVar 6) oNone (oSome (cC (.int 99)))) (cTup (aCons (cC (.int 100)) aNil))) (aCons (cOp pAdd (cTup (aCons (cC (.bool true)) aNil)) (cSl pSl (cVar 6) (oSome (cC (.int 1))) oNone)) (aCons (cOp pAdd (cTup (aCons (cOp pSub (cC (.int 0)) (cC (.int 1))) aNil)) (cSl pSl (cVar 6) (oSome (cC (.int 1))) oNone)) aNil)))))))))))) (en b4 (some x) (some RISE)) s = .ok (BADS, s) := by kernel_rfl
theorem ne_num : pNe (.str "number") (.str "number") = .ok (.bool false) := by kernel_rfl
theorem ne_thi : pNe (.str "things") (.str "things") = .ok (.bool false) := by kernel_rfl
theorem eq_done : pEq (.str "done") (.str "done") = .ok (.bool true) := by kernel_rfl
theorem mul6 (x : Int) : pMul (TH x) (.int 6) = .ok (.list (rep 6 (TH x))) := by kernel_rfl
theorem mul5 (x : Int) : pMul (TH x) (.int 5) = .ok (.list (rep 5 (TH x))) := by kernel_rfl
theorem law_true : ∀ ns : List Int, 0 < ns.length → ∃ s', b_law (none :: some (tokD 0) :: List.replicate 7 none) (ns, 0) = .ok (.rt (.bool true), s') := by
  intro ns hl
  have hs : Live (ns, 0) := hl
  obtain ⟨x, s1, hd, h0, h1, hs1⟩ := draw_ev (lim := 99) (by decide) (by decide) hs
  obtain ⟨n, rfl⟩ := Int.eq_ofNat_of_zero_le h0
  have h8 := List.all_eq_true.mp eight n (List.mem_range.mpr (by omega))
  rw [Bool.and_eq_true, Bool.and_eq_true] at h8
  obtain ⟨⟨h81, h82⟩, h83⟩ := h8
  replace h81 := isS_eq h81
  replace h82 := isS_eq h82
  replace h83 := isS_eq h83
  refine ⟨s1, ?_⟩
  unfold b_law
  refine ev_let (v := GOODd) (s1 := (ns, 0)) (by kernel_rfl) (ev_let (v := ODDd) (s1 := (ns, 0)) (by kernel_rfl) (ev_seq (lp1_ev _) (ev_guard (s1 := (ns, 0)) (by kernel_rfl) (ev_seq (lp2_ev _) (ev_guard (s1 := (ns, 0)) (by kernel_rfl) (ev_guard (s1 := (ns, 0)) (by kernel_rfl) ?_))))))
  refine ev_let (v := TH n) (s1 := s1) ?_ (ev_let (v := RISE) (s1 := s1) rfl ?_)
  · exact ev_lst (ev_aC (s1 := (ns, 0)) rfl (ev_aC (s1 := s1) (ev_tup (ev_aC (s1 := s1) (ev_callD rfl hd) rfl)) rfl)) rfl (by simp [szL])
  refine ev_for_pass BADS id (fun ρ => ∃ b, ρ = en b (some (TH n)) (some RISE)) (by rw [List.map_id]; exact it3_ev (TH n) _ s1) ⟨_, rfl⟩ (fun b hb ρ hρ => ?_) (fun ρ hρ => ?_)
  · obtain ⟨b', rfl⟩ := hρ
    exact ⟨en (some b) (some (TH n)) (some RISE), _, rfl, ev_if_f (s' := s1) (ev_test (ev_op (ev_callF rfl (seven h0 h1 b hb)) rfl ne_num)) rfl, _, rfl⟩
  · obtain ⟨b', rfl⟩ := hρ
    refine ev_guard (s1 := s1) (ev_or_f (s' := s1) (by kernel_rfl) (ev_or_f (s' := s1) (ev_test (ev_op (ev_callF rfl h81) rfl ne_thi)) (ev_test (ev_op (ev_callF (ev_aC rfl (ev_aC rfl (ev_aC (ev_op rfl rfl (mul6 n)) (ev_a1 rfl)))) h82) rfl ne_thi)))) ?_
    refine ret_of (ev_andv (ev_op (ev_callF (ev_aC rfl (ev_aC rfl (ev_aC (ev_op rfl rfl (mul5 n)) (ev_a1 rfl)))) h83) rfl eq_done) (ev_andv (s1 := s1) ?_ ?_)) rfl
    · show lft (m__law_lists []) s1 = _
      rw [lists_t]
      rfl
    · show lft (m__law_watch []) s1 = _
      rw [watch_t]
      rfl


abbrev sW (j : Nat) : Stmt := inClass (top 55) j
theorem sc_W_init : FnScope ["self", "threshold"] ["self", "threshold"] (defScope (sW 0)) := ⟨rfl, rfl, rfl, by decide +kernel, rfl, by decide +kernel, by decide +kernel⟩
theorem ok_W_init {P : Program} {w : World} {K : PySem.W.Frag} {mg : Str → Option Value} {base : Heap} {f C : Addr} {fd : FuncData} {cls : Nat → Addr} {k : Nat} (F : FunD K "__init__" "Watch.__init__" (defArgs (sW 0)) (defBody (sW 0)) (defScope (sW 0)) [] [] f fd) (T : WaC K mg C) (fC : FnP P w K mg base cls k "check_threshold" 1 m_check_threshold) :
    FnOk P w K mg base (L2.CX P w) (k + 1) f fd ["self", "threshold"] (spInitW cls C) := by
  refine F.ok sc_W_init (fun vs H Q E h => ?_) (fun cdv A outer s H vs Q E hr h => ?_)
  · obtain ⟨x, dx, v, G, d, rfl, _⟩ := h
    rfl
  · obtain ⟨x, dx, v, G, d, rfl, sb, hx, hdx, rv, p⟩ := h
    have tk := takesE_of (P := P) (w := w) (K := K) (mg := mg) (base := base) (N := ["self", "threshold"]) (qual := "Watch.__init__") (scope := defScope (sW 0)) (f := f) (cd := cdv) (A := A) (outer := outer) (s := s) (H := H) (E := E)
    have hxx := passesE_of tk
    refine ⟨_, pss_cons (ds_expr (B := ⟨Wp cls (fun _ => .ref x), G, H, E⟩) (O := []) (de_call fC (hr.mono (Nat.le_refl _)) hxx (da_cons (de_var 1) da_nil))) (pss_cons (ps_fld (pv 0) (pv 1) rfl) (pss_one (ps_fld (pv 0) (pe_lst pa_nil) rfl))), ?_⟩
    have a0 : At ⟨Wp cls (fun _ => .ref x), G, H, E⟩ [] (L2.start ["self", "threshold"] [.ref x, v]) H G (startD ["self", "threshold"] [tokD 0, d]) () := ⟨⟨sb, fun _ z => z.elim, fun _ z => z.elim, trivial⟩, .refl, RpAll.begin_ (W := Wp cls (fun _ => .ref x)) _ (.cons (.inr ⟨0, rfl, rfl⟩) (.cons (.inl rv) .nil))⟩
    refine ⟨G, _, (), a0, ?_⟩
    show PostS ⟨Wp cls (fun _ => .ref x), G, H, E⟩ [] _ (bnd (lft (m_check_threshold [d]) ()) fun _ s1 => .ok (.nx [some (tokD 0), some d], s1))
    revert p
    cases m_check_threshold [d] with
    | bad => exact fun p => p.elim
    | exc c => exact fun p G' H' g => p H' (fun a o e => g.h a o (fun z => z) e) g.dom
    | ok r =>
      intro p σ' G' H' a1
      obtain ⟨t, rfl, q⟩ := p
      obtain ⟨v0, e0, r0⟩ := a1.rs.plain 0 (tokD 0) rfl (by simp)
      obtain ⟨v1, e1, r1⟩ := a1.rs.plain 1 (.int t) rfl (by simp)
      have hv0 : v0 = .ref x := by
        rcases r0 with r0 | ⟨n, _, e⟩
        · cases r0
        · exact e
      have hv1 := (r1.dg (isD_tok rfl)).of_int
      subst hv0 hv1
      have g : Gr (fun _ => False) G H G' H' := a1.gr
      have hx' := g.h _ _ (fun z => z) hx
      have hdx' := g.h _ _ (fun z => z) hdx
      refine ⟨_, e1, _, e0, x, C, dx, [], rfl, hx', T.cl, T.nT, (by show 0 < 1000; decide), ?_⟩
      refine ⟨Nat.zero_le _, fun l hl => ⟨_, e0, x, C, dx, putF "threshold" (.int t) [], rfl, ?_, T.cl, T.nL, (by show 1 < 1000; decide), ?_⟩⟩
      · rw [upd_ne (fun z => by rw [← z, upd_same] at hl; cases hl), upd_same]
      · have lx : l ≠ x := fun z => by rw [z, upd_same] at hl; cases hl
        have hl' : H' l = none := by rw [upd_ne lx] at hl; exact hl
        refine q l _ (g.dom l hl') (fun a o n e => ?_) (fun a e => ?_) upd_same ?_
        · have h1 := g.h a o (fun z => z) e
          rw [upd_ne n, upd_ne (ne_of_none h1 hl'), upd_ne n]; exact h1
        · by_cases z : a = x
          · rw [z, upd_same] at e; cases e
          · rw [upd_ne z] at e
            by_cases z2 : a = l
            · rw [z2, upd_same] at e; cases e
            · rw [upd_ne z2, upd_ne z] at e; exact g.dom a e
        · rw [upd_ne lx, upd_same]
theorem sc_W_push : FnScope ["self", "thing"] ["self", "thing"] (defScope (sW 1)) := ⟨rfl, rfl, rfl, by decide +kernel, rfl, by decide +kernel, by decide +kernel⟩
theorem ok_W_push {P : Program} {w : World} {K : PySem.W.Frag} {mg : Str → Option Value} {base : Heap} {f C : Addr} {fd : FuncData} {cls : Nat → Addr} {k : Nat} (F : FunD K "push" "Watch.push" (defArgs (sW 1)) (defBody (sW 1)) (defScope (sW 1)) [] [] f fd) (T : WaC K mg C) (fT : FnP P w K mg base cls k "is_thing" 1 m_is_thing) (x0 : ExcF K mg cls 0 "BadThings") :
    FnOk P w K mg base (L2.CX P w) (k + 1) f fd ["self", "thing"] (spW cls (Ww cls C) 2 fun _ => m_push) := by
  refine F.ok sc_W_push (fun vs H Q E h => ?_) (fun cdv A outer s H vs Q E hr h => ?_)
  · obtain ⟨i, G, ds, s, _, r, hl, _⟩ := h
    rw [r.len, hl]; rfl
  · obtain ⟨i, G, ds, ⟨t, es⟩, S, r, hl, p⟩ := h
    have tk := takesE_of (P := P) (w := w) (K := K) (mg := mg) (base := base) (N := ["self", "thing"]) (qual := "Watch.push") (scope := defScope (sW 1)) (f := f) (cd := cdv) (A := A) (outer := outer) (s := s) (H := H) (E := E)
    have hxx := passesE_of tk
    replace p : PostW cls (Ww cls C i) G H (m_push ds (t, es)) Q E := p
    unfold m_push at p
    split at p
    · rename_i z d
      refine ⟨_, pss_cons (ds_if (B := ⟨Wp cls (fun _ => .ref i.1), G, H, E⟩) (O := []) (O' := []) (dt_not (dt_val (de_call fT (hr.mono (Nat.le_refl _)) hxx (da_cons (de_var 1) da_nil)))) (dss_one (ds_raise tk x0.c)) dss_nil)
        (pss_cons (ps_expr (pe_bm PySem.F.plainAttrs_list PySem.F.slot_list_append PySem.F.type_list_append mt_append (pe_fld (pv 0) rfl) (pa_cons (pv 1) pa_nil)))
        (pss_one (ps_ret (pe_cmpR op_ge (pe_ix ix_tup (pv 1) pe_int (fun _ _ => rfl)) (pe_fld (pv 0) rfl) (nomark _))))), ?_⟩
      have a0 : At ⟨Wp cls (fun _ => .ref i.1), G, H, E⟩ [] (L2.start ["self", "thing"] vs) H G (startD ["self", "thing"] [.dict z, d]) () := ⟨⟨S.sub, fun _ z => z.elim, fun _ z => z.elim, trivial⟩, .refl, RpAll.begin_ (W := Wp cls (fun _ => .ref i.1)) _ r⟩
      refine ⟨G, _, (), a0, ?_⟩
      show PostS ⟨Wp cls (fun _ => .ref i.1), G, H, E⟩ [] _ (bnd (bnd (bnd (lft (m_is_thing [d]) ()) fun x s1 => match x with | .bool b => .ok (b, s1) | _ => .bad) fun x s1 => .ok (!x, s1)) fun x s1 => if x = true then sRaise 0 [some (.dict z), some d] s1 else sNil [some (.dict z), some d] s1)
      revert p
      cases m_is_thing [d] with
      | bad => exact fun p => p.elim
      | exc c => exact fun p => p.elim
      | ok b =>
        cases b with
        | bool b =>
          cases b with
          | false => exact fun p G' H' g => p G' H' g
          | true =>
            intro p σ' G' H' a1
            dsimp only at p
            split at p
            · rename_i a0' rest
              split at p
              · rename_i hlen
                have g : Gr (fun _ => False) G H G' H' := a1.gr
                have S1 := S.pure g a1.sit.sub
                obtain ⟨n, r1, r2, ws, r3, r4⟩ := S1.rep
                obtain ⟨v1, e1, q1⟩ := a1.rs.plain 1 _ rfl (by simp)
                obtain ⟨v0, e0, q0⟩ := a1.rs.plain 0 (.dict z) rfl (by simp)
                obtain ⟨_, hv0⟩ := pd_tok q0
                have hv0 : v0 = .ref i.1 := hv0
                subst hv0
                have hd1 := q1.dg (isD_tok rfl)
                obtain ⟨ta, tvs, rfl, gt, dt⟩ := id hd1.of_tup
                have ht' := a1.sit.sub _ _ gt
                cases dt with
                | cons da db =>
                  have hw0 := da.of_int
                  subst hw0
                  have at0 : ∀ us : List V, L2.atI (V.int a0' :: us) 0 = some (V.int a0') := fun us => by
                    unfold L2.atI ixN
                    rw [if_pos (by decide), if_pos (by rw [List.length_cons]; omega)]
                    rfl
                  have ntl : ta ≠ i.2.2 := fun z => by rw [z, r3] at ht'; cases ht'
                  refine ⟨_, e0, i.1, C, i.2.1, _, _, rfl, r1, T.cl, T.nL, wf_line _ _, .inl ⟨rfl, _, SqL.of r3⟩, _, e1, i.2.2, _, _, rfl, rfl, r3, (by rw [r4.len]; exact Nat.lt_of_lt_of_le hlen (by decide)), ?_⟩
                  have SU := Sit.upd (W := Ww cls C i) (s' := (t, es ++ [.tuple (.int a0' :: rest)])) (p := i.2.2) (o := .lst (ws ++ [.ref ta])) S1 (.inr (.inr rfl)) ⟨n, by rw [upd_ne n.2.1]; exact r1, by rw [upd_ne n.2.2]; exact r2, _, upd_same, r4.app (.cons hd1 .nil)⟩
                  refine ⟨_, e1, ta, _, 0, .int a0', rfl, rfl, SqT.of (by rw [upd_ne ntl]; exact ht'), at0 _, _, e0, i.1, C, i.2.1, _, .int t, rfl, by rw [upd_ne n.2.1]; exact r1, T.cl, T.nT, wf_thr _ _, a0', t, rfl, rfl, ?_⟩
                  exact p _ G' _ ((g.weak fun _ z => z.elim).trans SU.2) SU.1 (.inl (.bl _))
              · exact p.elim
            · exact p.elim
        | _ => exact fun p => p.elim
    · exact p.elim
theorem sc_W_things : FnScope ["self"] ["self"] (defScope (sW 4)) := ⟨rfl, rfl, rfl, by decide +kernel, rfl, by decide +kernel, by decide +kernel⟩
theorem ok_W_things {P : Program} {w : World} {K : PySem.W.Frag} {mg : Str → Option Value} {base : Heap} {f C : Addr} {fd : FuncData} {cls : Nat → Addr} (F : FunD K "things" "Watch.things" (defArgs (sW 4)) (defBody (sW 4)) (defScope (sW 4)) [] [] f fd) (T : WaC K mg C) (g : Free mg) :
    FnOk P w K mg base (L2.CX P w) 1 f fd ["self"] (spW cls (Ww cls C) 1 fun _ => m_things) := by
  refine F.ok sc_W_things (fun vs H Q E h => ?_) (fun cdv A outer s H vs Q E hr h => ?_)
  · obtain ⟨i, G, ds, s, _, r, hl, _⟩ := h
    rw [r.len, hl]; rfl
  · obtain ⟨i, G, ds, ⟨t, es⟩, S, r, hl, p⟩ := h
    replace p : PostW cls (Ww cls C i) G H (m_things ds (t, es)) Q E := p
    unfold m_things at p
    split at p
    · cases r with
      | cons ra rb =>
        cases rb
        obtain ⟨_, hv0⟩ := pd_tok ra
        subst hv0
        obtain ⟨n, r1, r2, ws, r3, r4⟩ := id S.rep
        refine ⟨_, pss_one (ps_ret (pe_callTy call_list_of (by rfl) g.list_ (by decide +kernel) (pa_cons (pe_fld (pv 0) rfl) pa_nil))), ?_⟩
        refine ⟨_, rfl, i.1, C, i.2.1, _, _, rfl, r1, T.cl, T.nL, wf_line _ _, i.2.2, _, rfl, .inl (SqL.of r3), fun q hq => ?_⟩
        have ga := Gr.alloc (fp := (Ww cls C i).fp) (o := .lst ws) S.sub hq
        exact p _ _ _ ga (S.alloc hq) (.inl (.lst upd_same (r4.mono ga.g)))
    · exact p.elim
theorem sc_W_undo : FnScope ["self"] ["self"] (defScope (sW 5)) := ⟨rfl, rfl, rfl, by decide +kernel, rfl, by decide +kernel, by decide +kernel⟩
theorem ok_W_undo {P : Program} {w : World} {K : PySem.W.Frag} {mg : Str → Option Value} {base : Heap} {f C : Addr} {fd : FuncData} {cls : Nat → Addr} (F : FunD K "undo" "Watch.undo" (defArgs (sW 5)) (defBody (sW 5)) (defScope (sW 5)) [] [] f fd) (T : WaC K mg C) (x4 : ExcF K mg cls 4 "NotFound") :
    FnOk P w K mg base (L2.CX P w) 1 f fd ["self"] (spW cls (Ww cls C) 1 fun _ => m_undo) := by
  refine F.ok sc_W_undo (fun vs H Q E h => ?_) (fun cdv A outer s H vs Q E hr h => ?_)
  · obtain ⟨i, G, ds, s, _, r, hl, _⟩ := h
    rw [r.len, hl]; rfl
  · obtain ⟨i, G, ds, ⟨t, es⟩, S, r, hl, p⟩ := h
    have tk := takesE_of (P := P) (w := w) (K := K) (mg := mg) (base := base) (N := ["self"]) (qual := "Watch.undo") (scope := defScope (sW 5)) (f := f) (cd := cdv) (A := A) (outer := outer) (s := s) (H := H) (E := E)
    replace p : PostW cls (Ww cls C i) G H (m_undo ds (t, es)) Q E := p
    unfold m_undo at p
    split at p
    · cases r with
      | cons ra rb =>
        cases rb
        obtain ⟨_, hv0⟩ := pd_tok ra
        subst hv0
        dsimp only at p
        split at p
        · rename_i hsh
          obtain ⟨n, r1, r2, ws, r3, r4⟩ := id S.rep
          refine ⟨_, pss_cons (ps_if (pt_cmpR (op_eqD hr.units) (pe_fld (pv 0) rfl) (pe_lst pa_nil) (nomark _)) (pss_one (ps_raise rfl tk (pmk_own PySem.F.excBase_ValueError x4.exc x4.glob x4.keep (raises_own x4.sub x4.typ) rfl (by decide)))) pss_nil)
            (pss_one (ps_ret (pe_bm0 PySem.F.plainAttrs_list PySem.F.slot_list_pop PySem.F.type_list_pop mt_pop (pe_fld (pv 0) rfl)))), ?_⟩
          refine ⟨_, rfl, i.1, C, i.2.1, _, _, rfl, r1, T.cl, T.nL, wf_line _ _, Nat.zero_le _, fun e ne => ?_⟩
          have sm : ∀ a o, H a = some o → (upd H e (.lst [])) a = some o := fun a o h => by rw [upd_ne (ne_of_none h ne)]; exact h
          refine ⟨.list es, .list [], .lst (SqL.of (sm _ _ r3)) (DgAll.dp (fun a o h => sm a o (S.sub a o h)) r4), .lst (SqL.of upd_same) .nil, hsh, rfl, _, rfl, ?_⟩
          have S1 := S.allocH (o := .lst []) ne
          have g1 := Gr.allocH (fp := (Ww cls C i).fp) (G := G) (o := .lst []) ne
          have g0 := Gr.allocH (fp := fun _ => False) (G := G) (o := .lst []) ne
          cases hes : es with
          | nil =>
            subst hes
            refine (if_pos (show PyData.eqv (.list []) (.list []) = true from rfl)).mpr ?_
            exact p G _ g0
          | cons d0 dr =>
            subst hes
            refine (if_neg (show ¬ PyData.eqv (.list (d0 :: dr)) (.list []) = true from by intro z; cases z)).mpr ?_
            have hw := r4.len
            have hlt : (d0 :: dr).length - 1 < (d0 :: dr).length := by simp
            have hg : (d0 :: dr)[(d0 :: dr).length - 1]? = some ((d0 :: dr)[(d0 :: dr).length - 1]) := List.getElem?_eq_getElem hlt
            rw [hg] at p
            obtain ⟨y, ey, ry⟩ := r4.get hg
            obtain ⟨n', r1', r2', ws', r3', r4'⟩ := id S1.rep
            refine ⟨_, rfl, i.1, C, i.2.1, _, _, rfl, r1', T.cl, T.nL, wf_line _ _, .inl ⟨rfl, _, SqL.of (sm _ _ r3)⟩, i.2.2, ws, y, rfl, rfl, sm _ _ r3, by rw [hw]; exact ey, ?_⟩
            have SU := Sit.upd (W := Ww cls C i) (s' := (t, (d0 :: dr).dropLast)) (p := i.2.2) (o := .lst ws.dropLast) S1 (.inr (.inr rfl)) ⟨n, by rw [upd_ne n.2.1]; exact r1', by rw [upd_ne n.2.2]; exact r2', _, upd_same, by
              rw [List.dropLast_eq_take, List.dropLast_eq_take, hw]
              exact r4.take _⟩
            exact p _ G _ (g1.trans SU.2) SU.1 (.inl ry)
        · exact p.elim
    · exact p.elim
theorem sc_W_len : FnScope ["self"] ["self"] (defScope (sW 6)) := ⟨rfl, rfl, rfl, by decide +kernel, rfl, by decide +kernel, by decide +kernel⟩
theorem ok_W_len {P : Program} {w : World} {K : PySem.W.Frag} {mg : Str → Option Value} {base : Heap} {f C : Addr} {fd : FuncData} {cls : Nat → Addr} (F : FunD K "__len__" "Watch.__len__" (defArgs (sW 6)) (defBody (sW 6)) (defScope (sW 6)) [] [] f fd) (T : WaC K mg C) (g : Free mg) :
    FnOk P w K mg base (L2.CX P w) 1 f fd ["self"] (spW cls (Ww cls C) 1 fun _ => m_wlen) := by
  refine F.ok sc_W_len (fun vs H Q E h => ?_) (fun cdv A outer s H vs Q E hr h => ?_)
  · obtain ⟨i, G, ds, s, _, r, hl, _⟩ := h
    rw [r.len, hl]; rfl
  · obtain ⟨i, G, ds, ⟨t, es⟩, S, r, hl, p⟩ := h
    replace p : PostW cls (Ww cls C i) G H (m_wlen ds (t, es)) Q E := p
    unfold m_wlen at p
    split at p
    · cases r with
      | cons ra rb =>
        cases rb
        obtain ⟨_, hv0⟩ := pd_tok ra
        subst hv0
        dsimp only at p
        split at p
        · obtain ⟨n, r1, r2, ws, r3, r4⟩ := id S.rep
          refine ⟨_, pss_one (ps_ret (pe_callB call_len_seq (by rfl) g.len_ PySem.boot_len (pa_cons (pe_fld (pv 0) rfl) pa_nil))), ?_⟩
          refine ⟨_, rfl, i.1, C, i.2.1, _, _, rfl, r1, T.cl, T.nL, wf_line _ _, i.2.2, _, rfl, .inl (SqL.of r3), ?_⟩
          rw [r4.len]
          exact p _ G H .refl S (.inl (.int _))
        · exact p.elim
    · exact p.elim

theorem sc_W_counts : FnScope ["self", "found", "score", "faulty"] ["self"] (defScope (sW 3)) := ⟨rfl, rfl, rfl, by decide +kernel, rfl, by decide +kernel, by decide +kernel⟩
theorem ok_W_counts {P : Program} {w : World} {K : PySem.W.Frag} {mg : Str → Option Value} {base : Heap} {f C : Addr} {fd : FuncData} {cls : Nat → Addr} (F : FunD K "counts" "Watch.counts" (defArgs (sW 3)) (defBody (sW 3)) (defScope (sW 3)) [] [] f fd) (T : WaC K mg C) (g : Free mg)  :
    FnOk P w K mg base (L2.CX P w) 1 f fd ["self"] (spW cls (Ww cls C) 1 fun _ => m_W_counts) :=
  fn_rd (k := 0) (fb := b_W_counts) F sc_W_counts rfl (fun cdv A outer s H E tkk i ds G1 H1 hr => by
    have hp := passesO_of (CX := L2.CX P w) (P := P) (w := w) (K := K) (mg := mg) (base := base) (N := ["self", "found", "score", "faulty"]) (qual := "Watch.counts") (scope := defScope (sW 3)) (f := f) (cd := cdv) (A := A) (outer := outer) (s := s) (H := H) (E := E)
    exact (dss_cons (O1 := [1]) (ds_setF (O' := [1]) 1 sc_W_counts.nd (df_lst (da_cons de_int (da_cons de_int (da_cons de_int (da_cons de_int da_nil))))))
      (dss_cons (O1 := [1]) (ds_for hp (di_list (de_line T (de_var 0))) (dg_tup (bLen_cons (bLen_cons bLen_nil)) (dgs_cons (dg_name 2 sc_W_counts.nd) (dgs_cons (dg_name 3 sc_W_counts.nd) dgs_nil))) (fun _ =>
      (dss_one (ds_if (dt_cmp dop_ge (de_var 2) (de_thr T (de_var 0)))
      (dss_one (ds_augIx 1 (de_if (dt_val (de_var 3)) de_int de_int)))
      (dss_one (ds_augIx 1 (de_if (dt_val (de_var 3)) de_int de_int)))))))
      (dss_less (O1 := []) (by decide) (dss_one (ds_ret (de_callTy dc_tuple g.tuple_ (da_cons (de_var 1) da_nil))))))))
theorem sc_W_move : FnScope ["self", "threshold", "low", "high", "score", "faulty"] ["self", "threshold"] (defScope (sW 2)) := ⟨rfl, rfl, rfl, by decide +kernel, rfl, by decide +kernel, by decide +kernel⟩
theorem ok_W_move {P : Program} {w : World} {K : PySem.W.Frag} {mg : Str → Option Value} {base : Heap} {f C : Addr} {fd : FuncData} {cls : Nat → Addr} (F : FunD K "move" "Watch.move" (defArgs (sW 2)) (defBody (sW 2)) (defScope (sW 2)) [] [] f fd) (T : WaC K mg C) (g : Free mg) (f_check_threshold : FnP P w K mg base cls 2 "check_threshold" 1 m_check_threshold) :
    FnOk P w K mg base (L2.CX P w) 3 f fd ["self", "threshold"] (spW cls (Ww cls C) 2 fun _ => m_W_move) :=
  fn_rd1 (k := 2) (st := (defBody (sW 2)).headD (.Pass ⟨0, 0, 0, 0⟩)) (rest := (defBody (sW 2)).tail) (f0 := c_W_move) (fb := b_W_move) F sc_W_move rfl rfl (fun cdv A outer s H E tkk G hr => by
    have tk := takesE_of (P := P) (w := w) (K := K) (mg := mg) (base := base) (N := ["self", "threshold", "low", "high", "score", "faulty"]) (qual := "Watch.move") (scope := defScope (sW 2)) (f := f) (cd := cdv) (A := A) (outer := outer) (s := s) (H := H) (E := E)
    have hx := passesE_of tk
    exact (ds_expr (de_call f_check_threshold (hr.mono (by decide)) hx (da_cons (de_var 1) da_nil)))) (fun cdv A outer s H E tkk i ds G1 H1 hr => by
    have hp := passesO_of (CX := L2.CX P w) (P := P) (w := w) (K := K) (mg := mg) (base := base) (N := ["self", "threshold", "low", "high", "score", "faulty"]) (qual := "Watch.move") (scope := defScope (sW 2)) (f := f) (cd := cdv) (A := A) (outer := outer) (s := s) (H := H) (E := E)
    exact (dss_cons (O1 := []) (ds_asg (de_tup (da_cons (de_callB (dc_min rfl) g.min_ (da_cons (de_var 1) (da_cons (de_thr T (de_var 0)) da_nil))) (da_cons (de_callB (dc_max rfl) g.max_ (da_cons (de_var 1) (da_cons (de_thr T (de_var 0)) da_nil))) da_nil))) (dg_tup (bLen_cons (bLen_cons bLen_nil)) (dgs_cons (dg_name 2 sc_W_move.nd) (dgs_cons (dg_name 3 sc_W_move.nd) dgs_nil))))
      (dss_cons (O1 := []) (ds_thr T (de_var 0) (de_var 1))
      (dss_one (ds_ret (de_callB dc_len g.len_ (da_cons (de_lc [("score", 4), ("faulty", 5)] sc_W_move.nd (di_list (de_line T (de_var 0))) (by rfl) (fun _ _ _ _ _ => (dg_tup (bLen_cons (bLen_cons bLen_nil)) (dgs_cons (dg_name 4 sc_W_move.nd) (dgs_cons (dg_name 5 sc_W_move.nd) dgs_nil)))) (fun _ _ _ _ _ => (dts_one (dt_chain dop_le dop_lt (de_var 2) (de_var 4) (de_var 3)))) (fun _ _ _ _ _ => de_int)) da_nil)))))))
theorem sc_is_int : FnScope ["value", "low", "high"] ["value", "low", "high"] (defScope (top 9)) := ⟨rfl, rfl, rfl, by decide +kernel, rfl, by decide +kernel, by decide +kernel⟩
theorem ok_is_int {P : Program} {w : World} {K : PySem.W.Frag} {mg : Str → Option Value} {base : Heap} {f : Addr} {fd : FuncData} {cls : Nat → Addr} (F : FunD K "is_int" "is_int" (defArgs (top 9)) (defBody (top 9)) (defScope (top 9)) [] [] f fd) (hm : mg "is_int" = some (.ref f)) (g : Free mg) :
    FnP P w K mg base cls 1 "is_int" 3 m_is_int :=
  fn_pure (k := 0) F sc_is_int hm rfl (F.bindsN fun _ _ _ _ _ _ us hl => match us, hl with | [_, _, _], _ => rfl) fun cdv A outer s H E _ G hr => by
    have tk := takesE_of (P := P) (w := w) (K := K) (mg := mg) (base := base) (N := ["value", "low", "high"]) (qual := "is_int") (scope := defScope (top 9)) (f := f) (cd := cdv) (A := A) (outer := outer) (s := s) (H := H) (E := E)
    have hx := passesE_of tk
    have hp := passesO_of (CX := L2.CX P w) (P := P) (w := w) (K := K) (mg := mg) (base := base) (N := ["value", "low", "high"]) (qual := "is_int") (scope := defScope (top 9)) (f := f) (cd := cdv) (A := A) (outer := outer) (s := s) (H := H) (E := E)
    exact (dss_one (ds_ret (de_and (de_isi tyOk_int g.isinstance_ g.int_ (de_var 0)) (de_and (de_not (de_isi tyOk_bool g.isinstance_ g.bool_ (de_var 0))) (de_one (de_chain dop_le dop_le (de_var 1) (de_var 0) (de_var 2)))))))
theorem sc_common : FnScope ["one", "other"] ["one", "other"] (defScope (top 17)) := ⟨rfl, rfl, rfl, by decide +kernel, rfl, by decide +kernel, by decide +kernel⟩
theorem ok_common {P : Program} {w : World} {K : PySem.W.Frag} {mg : Str → Option Value} {base : Heap} {f : Addr} {fd : FuncData} {cls : Nat → Addr} (F : FunD K "common" "common" (defArgs (top 17)) (defBody (top 17)) (defScope (top 17)) [] [] f fd) (hm : mg "common" = some (.ref f)) (g : Free mg) :
    FnP P w K mg base cls 1 "common" 2 m_common :=
  fn_pure (k := 0) F sc_common hm rfl (F.bindsN fun _ _ _ _ _ _ us hl => match us, hl with | [_, _], _ => rfl) fun cdv A outer s H E _ G hr => by
    have tk := takesE_of (P := P) (w := w) (K := K) (mg := mg) (base := base) (N := ["one", "other"]) (qual := "common") (scope := defScope (top 17)) (f := f) (cd := cdv) (A := A) (outer := outer) (s := s) (H := H) (E := E)
    have hx := passesE_of tk
    have hp := passesO_of (CX := L2.CX P w) (P := P) (w := w) (K := K) (mg := mg) (base := base) (N := ["one", "other"]) (qual := "common") (scope := defScope (top 17)) (f := f) (cd := cdv) (A := A) (outer := outer) (s := s) (H := H) (E := E)
    exact (dss_cons (O1 := []) (ds_par 0 1 sc_common.nd (da_cons (de_callB dc_abs g.abs_ (da_cons (de_var 0) da_nil)) (da_cons (de_callB dc_abs g.abs_ (da_cons (de_var 1) da_nil)) da_nil)))
      (dss_cons (O1 := []) (ds_while (n := (fuInt 1)) hp (dt_cmp (dop_ne hr.units) (de_var 1) de_int)
      (dss_one (ds_par 0 1 sc_common.nd (da_cons (de_var 1) (da_cons (de_op dop_mod (de_var 0) (de_var 1)) da_nil)))))
      (dss_one (ds_ret (de_var 0)))))
theorem sc_less : FnScope ["one", "other"] ["one", "other"] (defScope (top 21)) := ⟨rfl, rfl, rfl, by decide +kernel, rfl, by decide +kernel, by decide +kernel⟩
theorem ok_less {P : Program} {w : World} {K : PySem.W.Frag} {mg : Str → Option Value} {base : Heap} {f : Addr} {fd : FuncData} {cls : Nat → Addr} (F : FunD K "less" "less" (defArgs (top 21)) (defBody (top 21)) (defScope (top 21)) [] [] f fd) (hm : mg "less" = some (.ref f)) (g : Free mg) :
    FnP P w K mg base cls 1 "less" 2 m_less :=
  fn_pure (k := 0) F sc_less hm rfl (F.bindsN fun _ _ _ _ _ _ us hl => match us, hl with | [_, _], _ => rfl) fun cdv A outer s H E _ G hr => by
    have tk := takesE_of (P := P) (w := w) (K := K) (mg := mg) (base := base) (N := ["one", "other"]) (qual := "less") (scope := defScope (top 21)) (f := f) (cd := cdv) (A := A) (outer := outer) (s := s) (H := H) (E := E)
    have hx := passesE_of tk
    have hp := passesO_of (CX := L2.CX P w) (P := P) (w := w) (K := K) (mg := mg) (base := base) (N := ["one", "other"]) (qual := "less") (scope := defScope (top 21)) (f := f) (cd := cdv) (A := A) (outer := outer) (s := s) (H := H) (E := E)
    exact (dss_one (ds_ret (de_cmp dop_lt (de_op dop_mul (de_ix (de_var 0) de_int) (de_ix (de_var 1) de_int)) (de_op dop_mul (de_ix (de_var 1) de_int) (de_ix (de_var 0) de_int)))))
theorem sc_counts : FnScope ["things", "threshold", "false", "score", "faulty"] ["things", "threshold"] (defScope (top 24)) := ⟨rfl, rfl, rfl, by decide +kernel, rfl, by decide +kernel, by decide +kernel⟩
theorem ok_counts {P : Program} {w : World} {K : PySem.W.Frag} {mg : Str → Option Value} {base : Heap} {f : Addr} {fd : FuncData} {cls : Nat → Addr} (F : FunD K "counts" "counts" (defArgs (top 24)) (defBody (top 24)) (defScope (top 24)) [] [] f fd) (hm : mg "counts" = some (.ref f)) (g : Free mg) :
    FnP P w K mg base cls 1 "counts" 2 m_counts :=
  fn_pure (k := 0) F sc_counts hm rfl (F.bindsN fun _ _ _ _ _ _ us hl => match us, hl with | [_, _], _ => rfl) fun cdv A outer s H E _ G hr => by
    have tk := takesE_of (P := P) (w := w) (K := K) (mg := mg) (base := base) (N := ["things", "threshold", "false", "score", "faulty"]) (qual := "counts") (scope := defScope (top 24)) (f := f) (cd := cdv) (A := A) (outer := outer) (s := s) (H := H) (E := E)
    have hx := passesE_of tk
    have hp := passesO_of (CX := L2.CX P w) (P := P) (w := w) (K := K) (mg := mg) (base := base) (N := ["things", "threshold", "false", "score", "faulty"]) (qual := "counts") (scope := defScope (top 24)) (f := f) (cd := cdv) (A := A) (outer := outer) (s := s) (H := H) (E := E)
    exact (dss_cons (O1 := []) (ds_set 2 sc_counts.nd (de_callB dc_len g.len_ (da_cons (de_lc [("score", 3), ("faulty", 4)] sc_counts.nd (di_list (de_var 0)) (by rfl) (fun _ _ _ _ _ => (dg_tup (bLen_cons (bLen_cons bLen_nil)) (dgs_cons (dg_name 3 sc_counts.nd) (dgs_cons (dg_name 4 sc_counts.nd) dgs_nil)))) (fun _ _ _ _ _ => (dts_one (dt_bool (dw_and (dt_cmp dop_ge (de_var 3) (de_var 1)) (dw_and1 (dt_not (dt_val (de_var 4)))))))) (fun _ _ _ _ _ => de_int)) da_nil)))
      (dss_one (ds_ret (de_tup (da_cons (de_var 2) (da_cons (de_callB dc_len g.len_ (da_cons (de_lc [("score", 3), ("faulty", 4)] sc_counts.nd (di_list (de_var 0)) (by rfl) (fun _ _ _ _ _ => (dg_tup (bLen_cons (bLen_cons bLen_nil)) (dgs_cons (dg_name 3 sc_counts.nd) (dgs_cons (dg_name 4 sc_counts.nd) dgs_nil)))) (fun _ _ _ _ _ => (dts_one (dt_bool (dw_and (dt_cmp dop_ge (de_var 3) (de_var 1)) (dw_and1 (dt_val (de_var 4))))))) (fun _ _ _ _ _ => de_int)) da_nil)) da_nil))))))
theorem sc_double_area : FnScope ["points", "found", "one", "other"] ["points"] (defScope (top 26)) := ⟨rfl, rfl, rfl, by decide +kernel, rfl, by decide +kernel, by decide +kernel⟩
theorem ok_double_area {P : Program} {w : World} {K : PySem.W.Frag} {mg : Str → Option Value} {base : Heap} {f : Addr} {fd : FuncData} {cls : Nat → Addr} (F : FunD K "double_area" "double_area" (defArgs (top 26)) (defBody (top 26)) (defScope (top 26)) [] [] f fd) (hm : mg "double_area" = some (.ref f)) (g : Free mg) :
    FnP P w K mg base cls 1 "double_area" 1 m_double_area :=
  fn_pure (k := 0) F sc_double_area hm rfl (F.bindsN fun _ _ _ _ _ _ us hl => match us, hl with | [_], _ => rfl) fun cdv A outer s H E _ G hr => by
    have tk := takesE_of (P := P) (w := w) (K := K) (mg := mg) (base := base) (N := ["points", "found", "one", "other"]) (qual := "double_area") (scope := defScope (top 26)) (f := f) (cd := cdv) (A := A) (outer := outer) (s := s) (H := H) (E := E)
    have hx := passesE_of tk
    have hp := passesO_of (CX := L2.CX P w) (P := P) (w := w) (K := K) (mg := mg) (base := base) (N := ["points", "found", "one", "other"]) (qual := "double_area") (scope := defScope (top 26)) (f := f) (cd := cdv) (A := A) (outer := outer) (s := s) (H := H) (E := E)
    exact (dss_cons (O1 := []) (ds_set 1 sc_double_area.nd de_int)
      (dss_cons (O1 := []) (ds_for hp (di_zip g.zip_ (da_cons (de_var 0) (da_cons (de_slice (de_var 0) (do_some de_int) do_none) da_nil))) (dg_tup (bLen_cons (bLen_cons bLen_nil)) (dgs_cons (dg_name 2 sc_double_area.nd) (dgs_cons (dg_name 3 sc_double_area.nd) dgs_nil))) (fun _ =>
      (dss_one (ds_aug 1 sc_double_area.nd (de_op dop_mul (de_op dop_sub (de_ix (de_var 3) de_int) (de_ix (de_var 2) de_int)) (de_op dop_add (de_ix (de_var 2) de_int) (de_ix (de_var 3) de_int)))))))
      (dss_one (ds_ret (de_var 1)))))
theorem sc_way_turn : FnScope ["one", "middle", "other", "wide", "high"] ["one", "middle", "other"] (defScope (top 28)) := ⟨rfl, rfl, rfl, by decide +kernel, rfl, by decide +kernel, by decide +kernel⟩
theorem ok_way_turn {P : Program} {w : World} {K : PySem.W.Frag} {mg : Str → Option Value} {base : Heap} {f : Addr} {fd : FuncData} {cls : Nat → Addr} (F : FunD K "way_turn" "way_turn" (defArgs (top 28)) (defBody (top 28)) (defScope (top 28)) [] [] f fd) (hm : mg "way_turn" = some (.ref f)) (g : Free mg) :
    FnP P w K mg base cls 1 "way_turn" 3 m_way_turn :=
  fn_pure (k := 0) F sc_way_turn hm rfl (F.bindsN fun _ _ _ _ _ _ us hl => match us, hl with | [_, _, _], _ => rfl) fun cdv A outer s H E _ G hr => by
    have tk := takesE_of (P := P) (w := w) (K := K) (mg := mg) (base := base) (N := ["one", "middle", "other", "wide", "high"]) (qual := "way_turn") (scope := defScope (top 28)) (f := f) (cd := cdv) (A := A) (outer := outer) (s := s) (H := H) (E := E)
    have hx := passesE_of tk
    have hp := passesO_of (CX := L2.CX P w) (P := P) (w := w) (K := K) (mg := mg) (base := base) (N := ["one", "middle", "other", "wide", "high"]) (qual := "way_turn") (scope := defScope (top 28)) (f := f) (cd := cdv) (A := A) (outer := outer) (s := s) (H := H) (E := E)
    exact (dss_cons (O1 := []) (ds_par 3 4 sc_way_turn.nd (da_cons (de_op dop_sub (de_ix (de_var 1) de_int) (de_ix (de_var 0) de_int)) (da_cons (de_op dop_sub (de_ix (de_var 1) de_int) (de_ix (de_var 0) de_int)) da_nil)))
      (dss_one (ds_ret (de_op dop_sub (de_op dop_mul (de_var 3) (de_op dop_sub (de_ix (de_var 2) de_int) (de_ix (de_var 0) de_int))) (de_op dop_mul (de_var 4) (de_op dop_sub (de_ix (de_var 2) de_int) (de_ix (de_var 0) de_int)))))))
theorem sc__law_error : FnScope ["caught", "kinds"] ["caught"] (defScope (top 61)) := ⟨rfl, rfl, rfl, by decide +kernel, rfl, by decide +kernel, by decide +kernel⟩
theorem ok__law_error {P : Program} {w : World} {K : PySem.W.Frag} {mg : Str → Option Value} {base : Heap} {f : Addr} {fd : FuncData} {cls : Nat → Addr} (F : FunD K "_law_error" "_law_error" (defArgs (top 61)) (defBody (top 61)) (defScope (top 61)) [] [] f fd) (g : Free mg) (ek : ErrK K mg cls) (x_BadThings : ExcF K mg cls 0 "BadThings") (x_BadNumber : ExcF K mg cls 1 "BadNumber") (x_BadPoints : ExcF K mg cls 2 "BadPoints") (x_BadText : ExcF K mg cls 3 "BadText") (x_NotFound : ExcF K mg cls 4 "NotFound") :
    FnOk P w K mg base (L2.CX P w) 1 f fd ["caught"] (spX cls errN) := by
  obtain ⟨al, al1, al2⟩ := ek.al
  refine fn_err (k := 0) (fb := b__law_error) F sc__law_error rfl (fun cdv A outer s H E a G hr => ?_) (fun c hc => ?_)
  · exact (dss_cons (O1 := []) (ds_set 1 sc__law_error.nd (de_lst (da_cons (de_isE (f := fun c => decide (c = 0)) (fun c hc => ⟨ek.ec c hc, ek.kit c 0 hc (by decide)⟩) (.own _) g.isinstance_ (pe_glob rfl x_BadThings.glob rfl) (de_var 0)) (da_cons (de_isE (f := fun c => decide (c = 1)) (fun c hc => ⟨ek.ec c hc, ek.kit c 1 hc (by decide)⟩) (.own _) g.isinstance_ (pe_glob rfl x_BadNumber.glob rfl) (de_var 0)) (da_cons (de_isE (f := fun c => decide (c = 2)) (fun c hc => ⟨ek.ec c hc, ek.kit c 2 hc (by decide)⟩) (.own _) g.isinstance_ (pe_glob rfl x_BadPoints.glob rfl) (de_var 0)) da_nil)))))
      (dss_cons (O1 := []) (ds_set 1 sc__law_error.nd (de_op dop_add (de_var 1) (de_lst (da_cons (de_isE (f := fun c => decide (c = 3)) (fun c hc => ⟨ek.ec c hc, ek.kit c 3 hc (by decide)⟩) (.own _) g.isinstance_ (pe_glob rfl x_BadText.glob rfl) (de_var 0)) (da_cons (de_isE (f := fun c => decide (c = 4)) (fun c hc => ⟨ek.ec c hc, ek.kit c 4 hc (by decide)⟩) (.own _) g.isinstance_ (pe_glob rfl x_NotFound.glob rfl) (de_var 0)) da_nil)))))
      (dss_cons (O1 := []) (ds_if (dt_bool (dw_or (dt_cmp (dop_ne hr.units) (de_meth PySem.F.slot_list_count PySem.F.type_list_count dm_count (de_var 1) de_bl) de_int) (dw_or (dt_not (dt_val (de_isE (f := fun _ => true) (fun c hc => ⟨ek.ec c hc, (al2 c hc).1⟩) (.own _) g.isinstance_ (pe_glob rfl al1 rfl) (de_var 0)))) (dw_or1 (dt_not (dt_val (de_isE (f := fun _ => true) (fun c hc => ⟨ek.ec c hc, ek.ve c hc⟩) (.ty "ValueError") g.isinstance_ (pe_bltn (v := .ty "ValueError") rfl ek.nve (by decide +kernel) rfl) (de_var 0))))))))
      (dss_one (ds_ret de_str))
      dss_nil)
      (dss_one (ds_ret (de_ix (de_lst (da_cons de_str (da_cons de_str (da_cons de_str (da_cons de_str (da_cons de_str da_nil)))))) (de_meth PySem.F.slot_list_index PySem.F.type_list_index (dm_index (room65 hr)) (de_var 1) de_bl)))))))
  · match c, hc with
    | 0, _ => exact ⟨0, by kernel_rfl⟩
    | 1, _ => exact ⟨1, by kernel_rfl⟩
    | 2, _ => exact ⟨2, by kernel_rfl⟩
    | 3, _ => exact ⟨3, by kernel_rfl⟩
    | 4, _ => exact ⟨4, by kernel_rfl⟩
theorem sc_is_thing : FnScope ["value"] ["value"] (defScope (top 10)) := ⟨rfl, rfl, rfl, by decide +kernel, rfl, by decide +kernel, by decide +kernel⟩
theorem ok_is_thing {P : Program} {w : World} {K : PySem.W.Frag} {mg : Str → Option Value} {base : Heap} {f : Addr} {fd : FuncData} {cls : Nat → Addr} (F : FunD K "is_thing" "is_thing" (defArgs (top 10)) (defBody (top 10)) (defScope (top 10)) [] [] f fd) (hm : mg "is_thing" = some (.ref f)) (g : Free mg) (f_is_int : FnP P w K mg base cls 1 "is_int" 3 m_is_int) {t_MOST_SCORE : Tok} (c_MOST_SCORE : mg "MOST_SCORE" = some (.int 99 t_MOST_SCORE)) :
    FnP P w K mg base cls 2 "is_thing" 1 m_is_thing :=
  fn_pure (k := 1) F sc_is_thing hm rfl (F.bindsN fun _ _ _ _ _ _ us hl => match us, hl with | [_], _ => rfl) fun cdv A outer s H E _ G hr => by
    have tk := takesE_of (P := P) (w := w) (K := K) (mg := mg) (base := base) (N := ["value"]) (qual := "is_thing") (scope := defScope (top 10)) (f := f) (cd := cdv) (A := A) (outer := outer) (s := s) (H := H) (E := E)
    have hx := passesE_of tk
    have hp := passesO_of (CX := L2.CX P w) (P := P) (w := w) (K := K) (mg := mg) (base := base) (N := ["value"]) (qual := "is_thing") (scope := defScope (top 10)) (f := f) (cd := cdv) (A := A) (outer := outer) (s := s) (H := H) (E := E)
    exact (dss_cons (O1 := []) (ds_if (dt_bool (dw_or (dt_not (dt_val (de_isi tyOk_tuple g.isinstance_ g.tuple_ (de_var 0)))) (dw_or1 (dt_cmp (dop_ne hr.units) (de_callB dc_len g.len_ (da_cons (de_var 0) da_nil)) de_int))))
      (dss_one (ds_ret de_bl))
      dss_nil)
      (dss_one (ds_ret (de_and (de_call f_is_int (hr.mono (by decide)) hx (da_cons (de_ix (de_var 0) de_int) (da_cons de_int (da_cons (de_gint c_MOST_SCORE) da_nil)))) (de_one (de_isi tyOk_bool g.isinstance_ g.bool_ (de_ix (de_var 0) de_int)))))))
theorem sc_check_threshold : FnScope ["value"] ["value"] (defScope (top 13)) := ⟨rfl, rfl, rfl, by decide +kernel, rfl, by decide +kernel, by decide +kernel⟩
theorem ok_check_threshold {P : Program} {w : World} {K : PySem.W.Frag} {mg : Str → Option Value} {base : Heap} {f : Addr} {fd : FuncData} {cls : Nat → Addr} (F : FunD K "check_threshold" "check_threshold" (defArgs (top 13)) (defBody (top 13)) (defScope (top 13)) [] [] f fd) (hm : mg "check_threshold" = some (.ref f)) (g : Free mg) (f_is_int : FnP P w K mg base cls 1 "is_int" 3 m_is_int) {t_MOST_SCORE : Tok} (c_MOST_SCORE : mg "MOST_SCORE" = some (.int 99 t_MOST_SCORE)) (x_BadNumber : ExcF K mg cls 1 "BadNumber") :
    FnP P w K mg base cls 2 "check_threshold" 1 m_check_threshold :=
  fn_pure (k := 1) F sc_check_threshold hm rfl (F.bindsN fun _ _ _ _ _ _ us hl => match us, hl with | [_], _ => rfl) fun cdv A outer s H E _ G hr => by
    have tk := takesE_of (P := P) (w := w) (K := K) (mg := mg) (base := base) (N := ["value"]) (qual := "check_threshold") (scope := defScope (top 13)) (f := f) (cd := cdv) (A := A) (outer := outer) (s := s) (H := H) (E := E)
    have hx := passesE_of tk
    have hp := passesO_of (CX := L2.CX P w) (P := P) (w := w) (K := K) (mg := mg) (base := base) (N := ["value"]) (qual := "check_threshold") (scope := defScope (top 13)) (f := f) (cd := cdv) (A := A) (outer := outer) (s := s) (H := H) (E := E)
    exact (dss_one (ds_if (dt_not (dt_val (de_call f_is_int (hr.mono (by decide)) hx (da_cons (de_var 0) (da_cons de_int (da_cons (de_op dop_add (de_gint c_MOST_SCORE) de_int) da_nil))))))
      (dss_one (ds_raise tk (x_BadNumber.c)))
      dss_nil))
theorem sc_is_points : FnScope ["value", "point", "one", "other", "part"] ["value"] (defScope (top 14)) := ⟨rfl, rfl, rfl, by decide +kernel, rfl, by decide +kernel, by decide +kernel⟩
theorem ok_is_points {P : Program} {w : World} {K : PySem.W.Frag} {mg : Str → Option Value} {base : Heap} {f : Addr} {fd : FuncData} {cls : Nat → Addr} (F : FunD K "is_points" "is_points" (defArgs (top 14)) (defBody (top 14)) (defScope (top 14)) [] [] f fd) (hm : mg "is_points" = some (.ref f)) (g : Free mg) (f_is_int : FnP P w K mg base cls 1 "is_int" 3 m_is_int) {t_MOST_THINGS : Tok} (c_MOST_THINGS : mg "MOST_THINGS" = some (.int 12 t_MOST_THINGS)) :
    FnP P w K mg base cls 2 "is_points" 1 m_is_points :=
  fn_pure (k := 1) F sc_is_points hm rfl (F.bindsN fun _ _ _ _ _ _ us hl => match us, hl with | [_], _ => rfl) fun cdv A outer s H E _ G hr => by
    have tk := takesE_of (P := P) (w := w) (K := K) (mg := mg) (base := base) (N := ["value", "point", "one", "other", "part"]) (qual := "is_points") (scope := defScope (top 14)) (f := f) (cd := cdv) (A := A) (outer := outer) (s := s) (H := H) (E := E)
    have hx := passesE_of tk
    have hp := passesO_of (CX := L2.CX P w) (P := P) (w := w) (K := K) (mg := mg) (base := base) (N := ["value", "point", "one", "other", "part"]) (qual := "is_points") (scope := defScope (top 14)) (f := f) (cd := cdv) (A := A) (outer := outer) (s := s) (H := H) (E := E)
    exact (dss_cons (O1 := []) (ds_if (dt_bool (dw_or (dt_not (dt_val (de_isi tyOk_list g.isinstance_ g.list_ (de_var 0)))) (dw_or (dt_not (dt_chain dop_le dop_le de_int (de_callB dc_len g.len_ (da_cons (de_var 0) da_nil)) (de_op dop_add (de_gint c_MOST_THINGS) de_int))) (dw_or1 (dt_cmp (dop_ne hr.units) (de_ix (de_var 0) de_int) (de_tup (da_cons de_int (da_cons de_int da_nil))))))))
      (dss_one (ds_ret de_bl))
      dss_nil)
      (dss_cons (O1 := []) (ds_for hp (di_list (de_var 0)) (dg_name 1 sc_is_points.nd) (fun _ =>
      (dss_one (ds_if (dt_bool (dw_or (dt_not (dt_val (de_isi tyOk_tuple g.isinstance_ g.tuple_ (de_var 1)))) (dw_or (dt_cmp (dop_ne hr.units) (de_callB dc_len g.len_ (da_cons (de_var 1) da_nil)) de_int) (dw_or1 (dt_not (dt_val (de_callB (dc_all rfl) g.all_ (da_cons (de_lc [("part", 4)] sc_is_points.nd (di_tup (de_var 1)) (by rfl) (fun _ _ _ _ _ => (dg_name 4 sc_is_points.nd)) (fun _ _ _ _ _ => dts_nil) (fun _ _ _ _ _ => (de_call f_is_int (hr.mono (by decide)) passL (da_cons (de_var 4) (da_cons de_int (da_cons (de_gint c_MOST_THINGS) da_nil)))))) da_nil))))))))
      (dss_one (ds_ret de_bl))
      dss_nil))))
      (dss_cons (O1 := []) (ds_for hp (di_zip g.zip_ (da_cons (de_var 0) (da_cons (de_slice (de_var 0) (do_some de_int) do_none) da_nil))) (dg_tup (bLen_cons (bLen_cons bLen_nil)) (dgs_cons (dg_name 2 sc_is_points.nd) (dgs_cons (dg_name 3 sc_is_points.nd) dgs_nil))) (fun _ =>
      (dss_one (ds_if (dt_bool (dw_or (dt_cmp dop_gt (de_ix (de_var 2) de_int) (de_ix (de_var 3) de_int)) (dw_or (dt_cmp dop_gt (de_ix (de_var 2) de_int) (de_ix (de_var 3) de_int)) (dw_or1 (dt_cmp (dop_eq hr.units) (de_var 2) (de_var 3))))))
      (dss_one (ds_ret de_bl))
      dss_nil))))
      (dss_one (ds_ret (de_cmp dop_le (de_callB (dc_sum rfl) g.sum_ (da_cons (de_ix (de_var 0) (de_un dun_neg de_int)) da_nil)) (de_gint c_MOST_THINGS)))))))
theorem sc_lowest : FnScope ["top", "below", "divisor"] ["top", "below"] (defScope (top 18)) := ⟨rfl, rfl, rfl, by decide +kernel, rfl, by decide +kernel, by decide +kernel⟩
theorem ok_lowest {P : Program} {w : World} {K : PySem.W.Frag} {mg : Str → Option Value} {base : Heap} {f : Addr} {fd : FuncData} {cls : Nat → Addr} (F : FunD K "lowest" "lowest" (defArgs (top 18)) (defBody (top 18)) (defScope (top 18)) [] [] f fd) (hm : mg "lowest" = some (.ref f)) (g : Free mg) (f_common : FnP P w K mg base cls 1 "common" 2 m_common) :
    FnP P w K mg base cls 2 "lowest" 2 m_lowest :=
  fn_pure (k := 1) F sc_lowest hm rfl (F.bindsN fun _ _ _ _ _ _ us hl => match us, hl with | [_, _], _ => rfl) fun cdv A outer s H E _ G hr => by
    have tk := takesE_of (P := P) (w := w) (K := K) (mg := mg) (base := base) (N := ["top", "below", "divisor"]) (qual := "lowest") (scope := defScope (top 18)) (f := f) (cd := cdv) (A := A) (outer := outer) (s := s) (H := H) (E := E)
    have hx := passesE_of tk
    have hp := passesO_of (CX := L2.CX P w) (P := P) (w := w) (K := K) (mg := mg) (base := base) (N := ["top", "below", "divisor"]) (qual := "lowest") (scope := defScope (top 18)) (f := f) (cd := cdv) (A := A) (outer := outer) (s := s) (H := H) (E := E)
    exact (dss_cons (O1 := []) (ds_if (dt_cmp dop_lt (de_var 1) de_int)
      (dss_one (ds_par 0 1 sc_lowest.nd (da_cons (de_un dun_neg (de_var 0)) (da_cons (de_un dun_neg (de_var 1)) da_nil))))
      dss_nil)
      (dss_cons (O1 := []) (ds_set 2 sc_lowest.nd (de_call f_common (hr.mono (by decide)) hx (da_cons (de_var 0) (da_cons (de_var 1) da_nil))))
      (dss_one (ds_ret (de_tup (da_cons (de_op dop_div (de_var 0) (de_var 2)) (da_cons (de_op dop_div (de_var 1) (de_var 2)) da_nil)))))))
theorem sc_is_mean : FnScope ["value", "most"] ["value", "most"] (defScope (top 22)) := ⟨rfl, rfl, rfl, by decide +kernel, rfl, by decide +kernel, by decide +kernel⟩
theorem ok_is_mean {P : Program} {w : World} {K : PySem.W.Frag} {mg : Str → Option Value} {base : Heap} {f : Addr} {fd : FuncData} {cls : Nat → Addr} (F : FunD K "is_mean" "is_mean" (defArgs (top 22)) (defBody (top 22)) (defScope (top 22)) [] [] f fd) (hm : mg "is_mean" = some (.ref f)) (g : Free mg) (f_is_int : FnP P w K mg base cls 1 "is_int" 3 m_is_int) (f_common : FnP P w K mg base cls 1 "common" 2 m_common) :
    FnP P w K mg base cls 2 "is_mean" 2 m_is_mean :=
  fn_pure (k := 1) F sc_is_mean hm rfl (F.bindsN fun _ _ _ _ _ _ us hl => match us, hl with | [_, _], _ => rfl) fun cdv A outer s H E _ G hr => by
    have tk := takesE_of (P := P) (w := w) (K := K) (mg := mg) (base := base) (N := ["value", "most"]) (qual := "is_mean") (scope := defScope (top 22)) (f := f) (cd := cdv) (A := A) (outer := outer) (s := s) (H := H) (E := E)
    have hx := passesE_of tk
    have hp := passesO_of (CX := L2.CX P w) (P := P) (w := w) (K := K) (mg := mg) (base := base) (N := ["value", "most"]) (qual := "is_mean") (scope := defScope (top 22)) (f := f) (cd := cdv) (A := A) (outer := outer) (s := s) (H := H) (E := E)
    exact (dss_cons (O1 := []) (ds_if (dt_bool (dw_or (dt_not (dt_val (de_isi tyOk_tuple g.isinstance_ g.tuple_ (de_var 0)))) (dw_or (dt_cmp (dop_ne hr.units) (de_callB dc_len g.len_ (da_cons (de_var 0) da_nil)) de_int) (dw_or1 (dt_not (dt_val (de_call f_is_int (hr.mono (by decide)) hx (da_cons (de_ix (de_var 0) de_int) (da_cons de_int (da_cons de_int da_nil))))))))))
      (dss_one (ds_ret de_bl))
      dss_nil)
      (dss_one (ds_ret (de_and (de_call f_is_int (hr.mono (by decide)) hx (da_cons (de_ix (de_var 0) de_int) (da_cons de_int (da_cons (de_op dop_mul (de_var 1) (de_ix (de_var 0) de_int)) da_nil)))) (de_one (de_cmp (dop_eq hr.units) (de_call f_common (hr.mono (by decide)) hx (da_cons (de_ix (de_var 0) de_int) (da_cons (de_ix (de_var 0) de_int) da_nil))) de_int))))))
theorem sc_corners_of : FnScope ["points", "found", "point"] ["points"] (defScope (top 29)) := ⟨rfl, rfl, rfl, by decide +kernel, rfl, by decide +kernel, by decide +kernel⟩
theorem ok_corners_of {P : Program} {w : World} {K : PySem.W.Frag} {mg : Str → Option Value} {base : Heap} {f : Addr} {fd : FuncData} {cls : Nat → Addr} (F : FunD K "corners_of" "corners_of" (defArgs (top 29)) (defBody (top 29)) (defScope (top 29)) [] [] f fd) (hm : mg "corners_of" = some (.ref f)) (g : Free mg) (f_way_turn : FnP P w K mg base cls 1 "way_turn" 3 m_way_turn) :
    FnP P w K mg base cls 2 "corners_of" 1 m_corners_of :=
  fn_pure (k := 1) F sc_corners_of hm rfl (F.bindsN fun _ _ _ _ _ _ us hl => match us, hl with | [_], _ => rfl) fun cdv A outer s H E _ G hr => by
    have tk := takesE_of (P := P) (w := w) (K := K) (mg := mg) (base := base) (N := ["points", "found", "point"]) (qual := "corners_of") (scope := defScope (top 29)) (f := f) (cd := cdv) (A := A) (outer := outer) (s := s) (H := H) (E := E)
    have hx := passesE_of tk
    have hp := passesO_of (CX := L2.CX P w) (P := P) (w := w) (K := K) (mg := mg) (base := base) (N := ["points", "found", "point"]) (qual := "corners_of") (scope := defScope (top 29)) (f := f) (cd := cdv) (A := A) (outer := outer) (s := s) (H := H) (E := E)
    exact (dss_cons (O1 := [1]) (ds_setF (O' := [1]) 1 sc_corners_of.nd (df_lst da_nil))
      (dss_cons (O1 := [1]) (ds_for hp (di_list (de_var 0)) (dg_name 2 sc_corners_of.nd) (fun _ =>
      (dss_cons (O1 := [1]) (ds_while (n := (fuLen 1)) hp (dt_bool (dw_and (dt_cmp dop_ge (de_lenO 1 g.len_) de_int) (dw_and1 (dt_cmp dop_ge (de_call f_way_turn (hr.mono (by decide)) hx (da_cons (de_ixO 1 (de_un dun_neg de_int)) (da_cons (de_ixO 1 (de_un dun_neg de_int)) (da_cons (de_var 2) da_nil)))) de_int))))
      (dss_one (ds_setF (O' := [1]) 1 sc_corners_of.nd (df_sliceO 1 do_none (do_some (de_un dun_neg de_int))))))
      (dss_one (ds_append 1 (de_var 2))))))
      (dss_less (O1 := []) (by decide) (dss_one (ds_ret (de_var 1))))))
theorem sc_check_share : FnScope ["value"] ["value"] (defScope (top 34)) := ⟨rfl, rfl, rfl, by decide +kernel, rfl, by decide +kernel, by decide +kernel⟩
theorem ok_check_share {P : Program} {w : World} {K : PySem.W.Frag} {mg : Str → Option Value} {base : Heap} {f : Addr} {fd : FuncData} {cls : Nat → Addr} (F : FunD K "check_share" "check_share" (defArgs (top 34)) (defBody (top 34)) (defScope (top 34)) [] [] f fd) (hm : mg "check_share" = some (.ref f)) (g : Free mg) (f_is_int : FnP P w K mg base cls 1 "is_int" 3 m_is_int) (f_common : FnP P w K mg base cls 1 "common" 2 m_common) (x_BadNumber : ExcF K mg cls 1 "BadNumber") :
    FnP P w K mg base cls 2 "check_share" 1 m_check_share :=
  fn_pure (k := 1) F sc_check_share hm rfl (F.bindsN fun _ _ _ _ _ _ us hl => match us, hl with | [_], _ => rfl) fun cdv A outer s H E _ G hr => by
    have tk := takesE_of (P := P) (w := w) (K := K) (mg := mg) (base := base) (N := ["value"]) (qual := "check_share") (scope := defScope (top 34)) (f := f) (cd := cdv) (A := A) (outer := outer) (s := s) (H := H) (E := E)
    have hx := passesE_of tk
    have hp := passesO_of (CX := L2.CX P w) (P := P) (w := w) (K := K) (mg := mg) (base := base) (N := ["value"]) (qual := "check_share") (scope := defScope (top 34)) (f := f) (cd := cdv) (A := A) (outer := outer) (s := s) (H := H) (E := E)
    exact (dss_cons (O1 := []) (ds_if (dt_bool (dw_or (dt_not (dt_val (de_isi tyOk_tuple g.isinstance_ g.tuple_ (de_var 0)))) (dw_or (dt_cmp (dop_ne hr.units) (de_callB dc_len g.len_ (da_cons (de_var 0) da_nil)) de_int) (dw_or1 (dt_not (dt_val (de_call f_is_int (hr.mono (by decide)) hx (da_cons (de_ix (de_var 0) de_int) (da_cons de_int (da_cons de_int da_nil))))))))))
      (dss_one (ds_raise tk (x_BadNumber.c)))
      dss_nil)
      (dss_one (ds_if (dt_bool (dw_or (dt_not (dt_val (de_call f_is_int (hr.mono (by decide)) hx (da_cons (de_ix (de_var 0) de_int) (da_cons de_int (da_cons (de_ix (de_var 0) de_int) da_nil)))))) (dw_or1 (dt_cmp (dop_ne hr.units) (de_call f_common (hr.mono (by decide)) hx (da_cons (de_ix (de_var 0) de_int) (da_cons (de_ix (de_var 0) de_int) da_nil))) de_int))))
      (dss_one (ds_raise tk (x_BadNumber.c)))
      dss_nil)))
theorem sc_check_numbers : FnScope ["sound", "faulty"] ["sound", "faulty"] (defScope (top 49)) := ⟨rfl, rfl, rfl, by decide +kernel, rfl, by decide +kernel, by decide +kernel⟩
theorem ok_check_numbers {P : Program} {w : World} {K : PySem.W.Frag} {mg : Str → Option Value} {base : Heap} {f : Addr} {fd : FuncData} {cls : Nat → Addr} (F : FunD K "check_numbers" "check_numbers" (defArgs (top 49)) (defBody (top 49)) (defScope (top 49)) [] [] f fd) (hm : mg "check_numbers" = some (.ref f)) (g : Free mg) (f_is_int : FnP P w K mg base cls 1 "is_int" 3 m_is_int) {t_MOST_EACH : Tok} (c_MOST_EACH : mg "MOST_EACH" = some (.int 4 t_MOST_EACH)) (x_BadNumber : ExcF K mg cls 1 "BadNumber") :
    FnP P w K mg base cls 2 "check_numbers" 2 m_check_numbers :=
  fn_pure (k := 1) F sc_check_numbers hm rfl (F.bindsN fun _ _ _ _ _ _ us hl => match us, hl with | [_, _], _ => rfl) fun cdv A outer s H E _ G hr => by
    have tk := takesE_of (P := P) (w := w) (K := K) (mg := mg) (base := base) (N := ["sound", "faulty"]) (qual := "check_numbers") (scope := defScope (top 49)) (f := f) (cd := cdv) (A := A) (outer := outer) (s := s) (H := H) (E := E)
    have hx := passesE_of tk
    have hp := passesO_of (CX := L2.CX P w) (P := P) (w := w) (K := K) (mg := mg) (base := base) (N := ["sound", "faulty"]) (qual := "check_numbers") (scope := defScope (top 49)) (f := f) (cd := cdv) (A := A) (outer := outer) (s := s) (H := H) (E := E)
    exact (dss_cons (O1 := []) (ds_if (dt_bool (dw_or (dt_not (dt_val (de_call f_is_int (hr.mono (by decide)) hx (da_cons (de_var 0) (da_cons de_int (da_cons (de_gint c_MOST_EACH) da_nil)))))) (dw_or1 (dt_not (dt_val (de_call f_is_int (hr.mono (by decide)) hx (da_cons (de_var 1) (da_cons de_int (da_cons (de_gint c_MOST_EACH) da_nil)))))))))
      (dss_one (ds_raise tk (x_BadNumber.c)))
      dss_nil)
      (dss_one (ds_if (dt_cmp (dop_eq hr.units) (de_op dop_add (de_var 0) (de_var 1)) de_int)
      (dss_one (ds_raise tk (x_BadNumber.c)))
      dss_nil)))
theorem sc_is_things : FnScope ["value", "thing"] ["value"] (defScope (top 11)) := ⟨rfl, rfl, rfl, by decide +kernel, rfl, by decide +kernel, by decide +kernel⟩
theorem ok_is_things {P : Program} {w : World} {K : PySem.W.Frag} {mg : Str → Option Value} {base : Heap} {f : Addr} {fd : FuncData} {cls : Nat → Addr} (F : FunD K "is_things" "is_things" (defArgs (top 11)) (defBody (top 11)) (defScope (top 11)) [] [] f fd) (hm : mg "is_things" = some (.ref f)) (g : Free mg) (f_is_thing : FnP P w K mg base cls 2 "is_thing" 1 m_is_thing) {t_MOST_THINGS : Tok} (c_MOST_THINGS : mg "MOST_THINGS" = some (.int 12 t_MOST_THINGS)) :
    FnP P w K mg base cls 3 "is_things" 1 m_is_things :=
  fn_pure (k := 2) F sc_is_things hm rfl (F.bindsN fun _ _ _ _ _ _ us hl => match us, hl with | [_], _ => rfl) fun cdv A outer s H E _ G hr => by
    have tk := takesE_of (P := P) (w := w) (K := K) (mg := mg) (base := base) (N := ["value", "thing"]) (qual := "is_things") (scope := defScope (top 11)) (f := f) (cd := cdv) (A := A) (outer := outer) (s := s) (H := H) (E := E)
    have hx := passesE_of tk
    have hp := passesO_of (CX := L2.CX P w) (P := P) (w := w) (K := K) (mg := mg) (base := base) (N := ["value", "thing"]) (qual := "is_things") (scope := defScope (top 11)) (f := f) (cd := cdv) (A := A) (outer := outer) (s := s) (H := H) (E := E)
    exact (dss_cons (O1 := []) (ds_if (dt_bool (dw_or (dt_not (dt_val (de_isi tyOk_list g.isinstance_ g.list_ (de_var 0)))) (dw_or1 (dt_not (dt_chain dop_le dop_le de_int (de_callB dc_len g.len_ (da_cons (de_var 0) da_nil)) (de_gint c_MOST_THINGS))))))
      (dss_one (ds_ret de_bl))
      dss_nil)
      (dss_one (ds_ret (de_callB (dc_all rfl) g.all_ (da_cons (de_lc [("thing", 1)] sc_is_things.nd (di_list (de_var 0)) (by rfl) (fun _ _ _ _ _ => (dg_name 1 sc_is_things.nd)) (fun _ _ _ _ _ => dts_nil) (fun _ _ _ _ _ => (de_call f_is_thing (hr.mono (by decide)) passL (da_cons (de_var 1) da_nil)))) da_nil)))))
theorem sc_check_points : FnScope ["value"] ["value"] (defScope (top 15)) := ⟨rfl, rfl, rfl, by decide +kernel, rfl, by decide +kernel, by decide +kernel⟩
theorem ok_check_points {P : Program} {w : World} {K : PySem.W.Frag} {mg : Str → Option Value} {base : Heap} {f : Addr} {fd : FuncData} {cls : Nat → Addr} (F : FunD K "check_points" "check_points" (defArgs (top 15)) (defBody (top 15)) (defScope (top 15)) [] [] f fd) (hm : mg "check_points" = some (.ref f)) (g : Free mg) (f_is_points : FnP P w K mg base cls 2 "is_points" 1 m_is_points) (x_BadPoints : ExcF K mg cls 2 "BadPoints") :
    FnP P w K mg base cls 3 "check_points" 1 m_check_points :=
  fn_pure (k := 2) F sc_check_points hm rfl (F.bindsN fun _ _ _ _ _ _ us hl => match us, hl with | [_], _ => rfl) fun cdv A outer s H E _ G hr => by
    have tk := takesE_of (P := P) (w := w) (K := K) (mg := mg) (base := base) (N := ["value"]) (qual := "check_points") (scope := defScope (top 15)) (f := f) (cd := cdv) (A := A) (outer := outer) (s := s) (H := H) (E := E)
    have hx := passesE_of tk
    have hp := passesO_of (CX := L2.CX P w) (P := P) (w := w) (K := K) (mg := mg) (base := base) (N := ["value"]) (qual := "check_points") (scope := defScope (top 15)) (f := f) (cd := cdv) (A := A) (outer := outer) (s := s) (H := H) (E := E)
    exact (dss_one (ds_if (dt_not (dt_val (de_call f_is_points (hr.mono (by decide)) hx (da_cons (de_var 0) da_nil))))
      (dss_one (ds_raise tk (x_BadPoints.c)))
      dss_nil))
theorem sc_plus : FnScope ["one", "other"] ["one", "other"] (defScope (top 19)) := ⟨rfl, rfl, rfl, by decide +kernel, rfl, by decide +kernel, by decide +kernel⟩
theorem ok_plus {P : Program} {w : World} {K : PySem.W.Frag} {mg : Str → Option Value} {base : Heap} {f : Addr} {fd : FuncData} {cls : Nat → Addr} (F : FunD K "plus" "plus" (defArgs (top 19)) (defBody (top 19)) (defScope (top 19)) [] [] f fd) (hm : mg "plus" = some (.ref f)) (g : Free mg) (f_lowest : FnP P w K mg base cls 2 "lowest" 2 m_lowest) :
    FnP P w K mg base cls 3 "plus" 2 m_plus :=
  fn_pure (k := 2) F sc_plus hm rfl (F.bindsN fun _ _ _ _ _ _ us hl => match us, hl with | [_, _], _ => rfl) fun cdv A outer s H E _ G hr => by
    have tk := takesE_of (P := P) (w := w) (K := K) (mg := mg) (base := base) (N := ["one", "other"]) (qual := "plus") (scope := defScope (top 19)) (f := f) (cd := cdv) (A := A) (outer := outer) (s := s) (H := H) (E := E)
    have hx := passesE_of tk
    have hp := passesO_of (CX := L2.CX P w) (P := P) (w := w) (K := K) (mg := mg) (base := base) (N := ["one", "other"]) (qual := "plus") (scope := defScope (top 19)) (f := f) (cd := cdv) (A := A) (outer := outer) (s := s) (H := H) (E := E)
    exact (dss_one (ds_ret (de_call f_lowest (hr.mono (by decide)) hx (da_cons (de_op dop_add (de_op dop_mul (de_ix (de_var 0) de_int) (de_ix (de_var 1) de_int)) (de_op dop_mul (de_ix (de_var 1) de_int) (de_ix (de_var 0) de_int))) (da_cons (de_op dop_mul (de_ix (de_var 0) de_int) (de_ix (de_var 1) de_int)) da_nil)))))
theorem sc_product : FnScope ["one", "other"] ["one", "other"] (defScope (top 20)) := ⟨rfl, rfl, rfl, by decide +kernel, rfl, by decide +kernel, by decide +kernel⟩
theorem ok_product {P : Program} {w : World} {K : PySem.W.Frag} {mg : Str → Option Value} {base : Heap} {f : Addr} {fd : FuncData} {cls : Nat → Addr} (F : FunD K "product" "product" (defArgs (top 20)) (defBody (top 20)) (defScope (top 20)) [] [] f fd) (hm : mg "product" = some (.ref f)) (g : Free mg) (f_lowest : FnP P w K mg base cls 2 "lowest" 2 m_lowest) :
    FnP P w K mg base cls 3 "product" 2 m_product :=
  fn_pure (k := 2) F sc_product hm rfl (F.bindsN fun _ _ _ _ _ _ us hl => match us, hl with | [_, _], _ => rfl) fun cdv A outer s H E _ G hr => by
    have tk := takesE_of (P := P) (w := w) (K := K) (mg := mg) (base := base) (N := ["one", "other"]) (qual := "product") (scope := defScope (top 20)) (f := f) (cd := cdv) (A := A) (outer := outer) (s := s) (H := H) (E := E)
    have hx := passesE_of tk
    have hp := passesO_of (CX := L2.CX P w) (P := P) (w := w) (K := K) (mg := mg) (base := base) (N := ["one", "other"]) (qual := "product") (scope := defScope (top 20)) (f := f) (cd := cdv) (A := A) (outer := outer) (s := s) (H := H) (E := E)
    exact (dss_one (ds_ret (de_call f_lowest (hr.mono (by decide)) hx (da_cons (de_op dop_mul (de_ix (de_var 0) de_int) (de_ix (de_var 1) de_int)) (da_cons (de_op dop_mul (de_ix (de_var 0) de_int) (de_ix (de_var 1) de_int)) da_nil)))))
theorem sc_height_of : FnScope ["corners", "place", "best", "one", "other", "wide", "height", "top"] ["corners", "place"] (defScope (top 31)) := ⟨rfl, rfl, rfl, by decide +kernel, rfl, by decide +kernel, by decide +kernel⟩
theorem ok_height_of {P : Program} {w : World} {K : PySem.W.Frag} {mg : Str → Option Value} {base : Heap} {f : Addr} {fd : FuncData} {cls : Nat → Addr} (F : FunD K "height_of" "height_of" (defArgs (top 31)) (defBody (top 31)) (defScope (top 31)) [] [] f fd) (hm : mg "height_of" = some (.ref f)) (g : Free mg) (f_lowest : FnP P w K mg base cls 2 "lowest" 2 m_lowest) (f_less : FnP P w K mg base cls 1 "less" 2 m_less) :
    FnP P w K mg base cls 3 "height_of" 2 m_height_of :=
  fn_pure (k := 2) F sc_height_of hm rfl (F.bindsN fun _ _ _ _ _ _ us hl => match us, hl with | [_, _], _ => rfl) fun cdv A outer s H E _ G hr => by
    have tk := takesE_of (P := P) (w := w) (K := K) (mg := mg) (base := base) (N := ["corners", "place", "best", "one", "other", "wide", "height", "top"]) (qual := "height_of") (scope := defScope (top 31)) (f := f) (cd := cdv) (A := A) (outer := outer) (s := s) (H := H) (E := E)
    have hx := passesE_of tk
    have hp := passesO_of (CX := L2.CX P w) (P := P) (w := w) (K := K) (mg := mg) (base := base) (N := ["corners", "place", "best", "one", "other", "wide", "height", "top"]) (qual := "height_of") (scope := defScope (top 31)) (f := f) (cd := cdv) (A := A) (outer := outer) (s := s) (H := H) (E := E)
    exact (dss_cons (O1 := []) (ds_set 2 sc_height_of.nd (de_tup (da_cons de_int (da_cons de_int da_nil))))
      (dss_cons (O1 := []) (ds_for hp (di_zip g.zip_ (da_cons (de_var 0) (da_cons (de_slice (de_var 0) (do_some de_int) do_none) da_nil))) (dg_tup (bLen_cons (bLen_cons bLen_nil)) (dgs_cons (dg_name 3 sc_height_of.nd) (dgs_cons (dg_name 4 sc_height_of.nd) dgs_nil))) (fun _ =>
      (dss_one (ds_if (dt_chain dop_le dop_le (de_op dop_mul (de_ix (de_var 3) de_int) (de_ix (de_var 1) de_int)) (de_ix (de_var 1) de_int) (de_op dop_mul (de_ix (de_var 4) de_int) (de_ix (de_var 1) de_int)))
      (dss_cons (O1 := []) (ds_set 5 sc_height_of.nd (de_op dop_sub (de_ix (de_var 4) de_int) (de_ix (de_var 3) de_int)))
      (dss_cons (O1 := []) (ds_if (dt_cmp (dop_eq hr.units) (de_var 5) de_int)
      (dss_one (ds_set 6 sc_height_of.nd (de_tup (da_cons (de_ix (de_var 4) de_int) (da_cons de_int da_nil)))))
      (dss_cons (O1 := []) (ds_set 7 sc_height_of.nd (de_op dop_add (de_op dop_mul (de_op dop_mul (de_ix (de_var 3) de_int) (de_var 5)) (de_ix (de_var 1) de_int)) (de_op dop_mul (de_op dop_sub (de_ix (de_var 1) de_int) (de_op dop_mul (de_ix (de_var 3) de_int) (de_ix (de_var 1) de_int))) (de_op dop_sub (de_ix (de_var 4) de_int) (de_ix (de_var 3) de_int)))))
      (dss_one (ds_set 6 sc_height_of.nd (de_call f_lowest (hr.mono (by decide)) hx (da_cons (de_var 7) (da_cons (de_op dop_mul (de_var 5) (de_ix (de_var 1) de_int)) da_nil)))))))
      (dss_one (ds_set 2 sc_height_of.nd (de_if (dt_val (de_call f_less (hr.mono (by decide)) hx (da_cons (de_var 2) (da_cons (de_var 6) da_nil)))) (de_var 6) (de_var 2))))))
      dss_nil))))
      (dss_one (ds_ret (de_var 2)))))
theorem sc_height : FnScope ["points", "place", "best", "a", "b", "wide", "now"] ["points", "place"] (defScope (top 39)) := ⟨rfl, rfl, rfl, by decide +kernel, rfl, by decide +kernel, by decide +kernel⟩
theorem ok_height {P : Program} {w : World} {K : PySem.W.Frag} {mg : Str → Option Value} {base : Heap} {f : Addr} {fd : FuncData} {cls : Nat → Addr} (F : FunD K "height" "height" (defArgs (top 39)) (defBody (top 39)) (defScope (top 39)) [] [] f fd) (hm : mg "height" = some (.ref f)) (g : Free mg) (f_lowest : FnP P w K mg base cls 2 "lowest" 2 m_lowest) (f_less : FnP P w K mg base cls 1 "less" 2 m_less) :
    FnP P w K mg base cls 3 "height" 2 m_height :=
  fn_pure (k := 2) F sc_height hm rfl (F.bindsN fun _ _ _ _ _ _ us hl => match us, hl with | [_, _], _ => rfl) fun cdv A outer s H E _ G hr => by
    have tk := takesE_of (P := P) (w := w) (K := K) (mg := mg) (base := base) (N := ["points", "place", "best", "a", "b", "wide", "now"]) (qual := "height") (scope := defScope (top 39)) (f := f) (cd := cdv) (A := A) (outer := outer) (s := s) (H := H) (E := E)
    have hx := passesE_of tk
    have hp := passesO_of (CX := L2.CX P w) (P := P) (w := w) (K := K) (mg := mg) (base := base) (N := ["points", "place", "best", "a", "b", "wide", "now"]) (qual := "height") (scope := defScope (top 39)) (f := f) (cd := cdv) (A := A) (outer := outer) (s := s) (H := H) (E := E)
    exact (dss_cons (O1 := []) (ds_set 2 sc_height.nd (de_tup (da_cons de_int (da_cons de_int da_nil))))
      (dss_cons (O1 := []) (ds_for hp (di_zip g.zip_ (da_cons (de_var 0) (da_cons (de_slice (de_var 0) (do_some de_int) do_none) da_nil))) (dg_tup (bLen_cons (bLen_cons bLen_nil)) (dgs_cons (dg_name 3 sc_height.nd) (dgs_cons (dg_name 4 sc_height.nd) dgs_nil))) (fun _ =>
      (dss_one (ds_if (dt_chain dop_le dop_le (de_op dop_mul (de_ix (de_var 3) de_int) (de_ix (de_var 1) de_int)) (de_ix (de_var 1) de_int) (de_op dop_mul (de_ix (de_var 4) de_int) (de_ix (de_var 1) de_int)))
      (dss_cons (O1 := []) (ds_set 5 sc_height.nd (de_op dop_sub (de_ix (de_var 4) de_int) (de_ix (de_var 3) de_int)))
      (dss_cons (O1 := []) (ds_if (dt_cmp (dop_eq hr.units) (de_var 5) de_int)
      (dss_one (ds_set 6 sc_height.nd (de_tup (da_cons (de_ix (de_var 4) de_int) (da_cons de_int da_nil)))))
      (dss_one (ds_set 6 sc_height.nd (de_call f_lowest (hr.mono (by decide)) hx (da_cons (de_op dop_add (de_op dop_mul (de_op dop_mul (de_ix (de_var 3) de_int) (de_var 5)) (de_ix (de_var 1) de_int)) (de_op dop_mul (de_op dop_sub (de_ix (de_var 1) de_int) (de_op dop_mul (de_ix (de_var 3) de_int) (de_ix (de_var 1) de_int))) (de_op dop_sub (de_ix (de_var 4) de_int) (de_ix (de_var 3) de_int)))) (da_cons (de_op dop_mul (de_var 5) (de_ix (de_var 1) de_int)) da_nil))))))
      (dss_one (ds_set 2 sc_height.nd (de_if (dt_val (de_call f_less (hr.mono (by decide)) hx (da_cons (de_var 2) (da_cons (de_var 6) da_nil)))) (de_var 6) (de_var 2))))))
      dss_nil))))
      (dss_one (ds_ret (de_var 2)))))
theorem sc_count_curves : FnScope ["sound", "faulty", "ways", "x", "y", "before", "a", "b"] ["sound", "faulty"] (defScope (top 52)) := ⟨rfl, rfl, rfl, by decide +kernel, rfl, by decide +kernel, by decide +kernel⟩
theorem ok_count_curves {P : Program} {w : World} {K : PySem.W.Frag} {mg : Str → Option Value} {base : Heap} {f : Addr} {fd : FuncData} {cls : Nat → Addr} (F : FunD K "count_curves" "count_curves" (defArgs (top 52)) (defBody (top 52)) (defScope (top 52)) [] [] f fd) (hm : mg "count_curves" = some (.ref f)) (g : Free mg) (f_check_numbers : FnP P w K mg base cls 2 "check_numbers" 2 m_check_numbers) :
    FnP P w K mg base cls 3 "count_curves" 2 m_count_curves :=
  fn_pure (k := 2) F sc_count_curves hm rfl (F.bindsN fun _ _ _ _ _ _ us hl => match us, hl with | [_, _], _ => rfl) fun cdv A outer s H E _ G hr => by
    have tk := takesE_of (P := P) (w := w) (K := K) (mg := mg) (base := base) (N := ["sound", "faulty", "ways", "x", "y", "before", "a", "b"]) (qual := "count_curves") (scope := defScope (top 52)) (f := f) (cd := cdv) (A := A) (outer := outer) (s := s) (H := H) (E := E)
    have hx := passesE_of tk
    have hp := passesO_of (CX := L2.CX P w) (P := P) (w := w) (K := K) (mg := mg) (base := base) (N := ["sound", "faulty", "ways", "x", "y", "before", "a", "b"]) (qual := "count_curves") (scope := defScope (top 52)) (f := f) (cd := cdv) (A := A) (outer := outer) (s := s) (H := H) (E := E)
    exact (dss_cons (O1 := []) (ds_expr (de_call f_check_numbers (hr.mono (by decide)) hx (da_cons (de_var 0) (da_cons (de_var 1) da_nil))))
      (dss_nD 2 sc_count_curves.nd (fun _ =>
      (dss_cons (O1 := []) (ds_for hp (di_range1 g.range_ (da_cons (de_op dop_add (de_var 0) de_int) da_nil)) (dg_name 3 sc_count_curves.nd) (fun _ =>
      (dss_one (ds_for hp (di_range1 g.range_ (da_cons (de_op dop_add (de_var 1) de_int) da_nil)) (dg_name 4 sc_count_curves.nd) (fun _ =>
      (dss_cons (O1 := []) (ds_set 5 sc_count_curves.nd (de_sumW 2 3 4 6 7 (by show 6 < 8; decide) (by show 7 < 8; decide) (pe_lock (pe_callB (cr_sum rfl) rfl g.sum_ (by decide +kernel) (pa_cons (pe_lc (own := [("a", 6), ("b", 7)]) rfl sc_count_curves.nd (pi_keys (pv 2)) (blkOk_by (by rfl)) (fun _ _ _ _ _ => pg_tup rfl (pgs_cons (pg_name (i := 6) sc_count_curves.nd rfl (.inl rfl)) (pgs_cons (pg_name (i := 7) sc_count_curves.nd rfl (.inl rfl)) pgs_nil))) (fun _ _ _ _ _ => pts_one (PW.pt (pw_and (pt_cmpR op_le (pv 6) (pv 3) (nomark _)) (pw_and1 (pt_cmpR op_le (pv 7) (pv 4) (nomark _)))))) (fun _ _ _ _ _ => pe_dget (hu_of hr) (pv 2) (pe_tup (pa_cons (pv 6) (pa_cons (pv 7) pa_nil))) (fun _ _ => rfl)) (fun _ => rfl)) pa_nil)))))
      (dss_one (ds_dput (hu_of hr) (de_var 2) (de_tup (da_cons (de_var 3) (da_cons (de_var 4) da_nil))) (de_if (dt_cmp (dop_ne hr.units) (de_tup (da_cons (de_var 3) (da_cons (de_var 4) da_nil))) (de_tup (da_cons de_int (da_cons de_int da_nil)))) (de_var 5) de_int)))))))))
      (dss_one (ds_ret (de_dget (hu_of hr) (de_var 2) (de_tup (da_cons (de_var 0) (da_cons (de_var 1) da_nil))))))))))
theorem sc_check_things : FnScope ["value"] ["value"] (defScope (top 12)) := ⟨rfl, rfl, rfl, by decide +kernel, rfl, by decide +kernel, by decide +kernel⟩
theorem ok_check_things {P : Program} {w : World} {K : PySem.W.Frag} {mg : Str → Option Value} {base : Heap} {f : Addr} {fd : FuncData} {cls : Nat → Addr} (F : FunD K "check_things" "check_things" (defArgs (top 12)) (defBody (top 12)) (defScope (top 12)) [] [] f fd) (hm : mg "check_things" = some (.ref f)) (g : Free mg) (f_is_things : FnP P w K mg base cls 3 "is_things" 1 m_is_things) (x_BadThings : ExcF K mg cls 0 "BadThings") :
    FnP P w K mg base cls 4 "check_things" 1 m_check_things :=
  fn_pure (k := 3) F sc_check_things hm rfl (F.bindsN fun _ _ _ _ _ _ us hl => match us, hl with | [_], _ => rfl) fun cdv A outer s H E _ G hr => by
    have tk := takesE_of (P := P) (w := w) (K := K) (mg := mg) (base := base) (N := ["value"]) (qual := "check_things") (scope := defScope (top 12)) (f := f) (cd := cdv) (A := A) (outer := outer) (s := s) (H := H) (E := E)
    have hx := passesE_of tk
    have hp := passesO_of (CX := L2.CX P w) (P := P) (w := w) (K := K) (mg := mg) (base := base) (N := ["value"]) (qual := "check_things") (scope := defScope (top 12)) (f := f) (cd := cdv) (A := A) (outer := outer) (s := s) (H := H) (E := E)
    exact (dss_one (ds_if (dt_not (dt_val (de_call f_is_things (hr.mono (by decide)) hx (da_cons (de_var 0) da_nil))))
      (dss_one (ds_raise tk (x_BadThings.c)))
      dss_nil))
theorem sc_hull_of : FnScope ["points"] ["points"] (defScope (top 30)) := ⟨rfl, rfl, rfl, by decide +kernel, rfl, by decide +kernel, by decide +kernel⟩
theorem ok_hull_of {P : Program} {w : World} {K : PySem.W.Frag} {mg : Str → Option Value} {base : Heap} {f : Addr} {fd : FuncData} {cls : Nat → Addr} (F : FunD K "hull_of" "hull_of" (defArgs (top 30)) (defBody (top 30)) (defScope (top 30)) [] [] f fd) (hm : mg "hull_of" = some (.ref f)) (g : Free mg) (f_check_points : FnP P w K mg base cls 3 "check_points" 1 m_check_points) (f_corners_of : FnP P w K mg base cls 2 "corners_of" 1 m_corners_of) :
    FnP P w K mg base cls 4 "hull_of" 1 m_hull_of :=
  fn_pure (k := 3) F sc_hull_of hm rfl (F.bindsN fun _ _ _ _ _ _ us hl => match us, hl with | [_], _ => rfl) fun cdv A outer s H E _ G hr => by
    have tk := takesE_of (P := P) (w := w) (K := K) (mg := mg) (base := base) (N := ["points"]) (qual := "hull_of") (scope := defScope (top 30)) (f := f) (cd := cdv) (A := A) (outer := outer) (s := s) (H := H) (E := E)
    have hx := passesE_of tk
    have hp := passesO_of (CX := L2.CX P w) (P := P) (w := w) (K := K) (mg := mg) (base := base) (N := ["points"]) (qual := "hull_of") (scope := defScope (top 30)) (f := f) (cd := cdv) (A := A) (outer := outer) (s := s) (H := H) (E := E)
    exact (dss_cons (O1 := []) (ds_expr (de_call f_check_points (hr.mono (by decide)) hx (da_cons (de_var 0) da_nil)))
      (dss_one (ds_ret (de_call f_corners_of (hr.mono (by decide)) hx (da_cons (de_var 0) da_nil)))))
theorem sc_hull_height : FnScope ["points", "place"] ["points", "place"] (defScope (top 32)) := ⟨rfl, rfl, rfl, by decide +kernel, rfl, by decide +kernel, by decide +kernel⟩
theorem ok_hull_height {P : Program} {w : World} {K : PySem.W.Frag} {mg : Str → Option Value} {base : Heap} {f : Addr} {fd : FuncData} {cls : Nat → Addr} (F : FunD K "hull_height" "hull_height" (defArgs (top 32)) (defBody (top 32)) (defScope (top 32)) [] [] f fd) (hm : mg "hull_height" = some (.ref f)) (g : Free mg) (f_check_points : FnP P w K mg base cls 3 "check_points" 1 m_check_points) (f_height_of : FnP P w K mg base cls 3 "height_of" 2 m_height_of) (f_is_mean : FnP P w K mg base cls 2 "is_mean" 2 m_is_mean) (f_corners_of : FnP P w K mg base cls 2 "corners_of" 1 m_corners_of) (x_BadNumber : ExcF K mg cls 1 "BadNumber") :
    FnP P w K mg base cls 4 "hull_height" 2 m_hull_height :=
  fn_pure (k := 3) F sc_hull_height hm rfl (F.bindsN fun _ _ _ _ _ _ us hl => match us, hl with | [_, _], _ => rfl) fun cdv A outer s H E _ G hr => by
    have tk := takesE_of (P := P) (w := w) (K := K) (mg := mg) (base := base) (N := ["points", "place"]) (qual := "hull_height") (scope := defScope (top 32)) (f := f) (cd := cdv) (A := A) (outer := outer) (s := s) (H := H) (E := E)
    have hx := passesE_of tk
    have hp := passesO_of (CX := L2.CX P w) (P := P) (w := w) (K := K) (mg := mg) (base := base) (N := ["points", "place"]) (qual := "hull_height") (scope := defScope (top 32)) (f := f) (cd := cdv) (A := A) (outer := outer) (s := s) (H := H) (E := E)
    exact (dss_cons (O1 := []) (ds_expr (de_call f_check_points (hr.mono (by decide)) hx (da_cons (de_var 0) da_nil)))
      (dss_cons (O1 := []) (ds_if (dt_not (dt_val (de_call f_is_mean (hr.mono (by decide)) hx (da_cons (de_var 1) (da_cons (de_ix (de_ix (de_var 0) (de_un dun_neg de_int)) de_int) da_nil)))))
      (dss_one (ds_raise tk (x_BadNumber.c)))
      dss_nil)
      (dss_one (ds_ret (de_call f_height_of (hr.mono (by decide)) hx (da_cons (de_call f_corners_of (hr.mono (by decide)) hx (da_cons (de_var 0) da_nil)) (da_cons (de_var 1) da_nil)))))))
theorem sc_mean_point : FnScope ["one", "other", "share", "rest", "k"] ["one", "other", "share"] (defScope (top 35)) := ⟨rfl, rfl, rfl, by decide +kernel, rfl, by decide +kernel, by decide +kernel⟩
theorem ok_mean_point {P : Program} {w : World} {K : PySem.W.Frag} {mg : Str → Option Value} {base : Heap} {f : Addr} {fd : FuncData} {cls : Nat → Addr} (F : FunD K "mean_point" "mean_point" (defArgs (top 35)) (defBody (top 35)) (defScope (top 35)) [] [] f fd) (hm : mg "mean_point" = some (.ref f)) (g : Free mg) (f_plus : FnP P w K mg base cls 3 "plus" 2 m_plus) (f_product : FnP P w K mg base cls 3 "product" 2 m_product) :
    FnP P w K mg base cls 4 "mean_point" 3 m_mean_point :=
  fn_pure (k := 3) F sc_mean_point hm rfl (F.bindsN fun _ _ _ _ _ _ us hl => match us, hl with | [_, _, _], _ => rfl) fun cdv A outer s H E _ G hr => by
    have tk := takesE_of (P := P) (w := w) (K := K) (mg := mg) (base := base) (N := ["one", "other", "share", "rest", "k"]) (qual := "mean_point") (scope := defScope (top 35)) (f := f) (cd := cdv) (A := A) (outer := outer) (s := s) (H := H) (E := E)
    have hx := passesE_of tk
    have hp := passesO_of (CX := L2.CX P w) (P := P) (w := w) (K := K) (mg := mg) (base := base) (N := ["one", "other", "share", "rest", "k"]) (qual := "mean_point") (scope := defScope (top 35)) (f := f) (cd := cdv) (A := A) (outer := outer) (s := s) (H := H) (E := E)
    exact (dss_cons (O1 := []) (ds_set 3 sc_mean_point.nd (de_tup (da_cons (de_op dop_sub (de_ix (de_var 2) de_int) (de_ix (de_var 2) de_int)) (da_cons (de_ix (de_var 2) de_int) da_nil))))
      (dss_one (ds_ret (de_callTy dc_tuple g.tuple_ (da_cons (de_lc [("k", 4)] sc_mean_point.nd (di_tup (de_tup (da_cons de_int (da_cons de_int da_nil)))) (by rfl) (fun _ _ _ _ _ => (dg_name 4 sc_mean_point.nd)) (fun _ _ _ _ _ => dts_nil) (fun _ _ _ _ _ => (de_call f_plus (hr.mono (by decide)) passL (da_cons (de_call f_product (hr.mono (by decide)) passL (da_cons (de_tup (da_cons (de_ix (de_var 0) (de_var 4)) (da_cons de_int da_nil))) (da_cons (de_var 2) da_nil))) (da_cons (de_call f_product (hr.mono (by decide)) passL (da_cons (de_tup (da_cons (de_ix (de_var 1) (de_var 4)) (da_cons de_int da_nil))) (da_cons (de_var 3) da_nil))) da_nil))))) da_nil)))))
theorem sc_check_both : FnScope ["one", "other"] ["one", "other"] (defScope (top 38)) := ⟨rfl, rfl, rfl, by decide +kernel, rfl, by decide +kernel, by decide +kernel⟩
theorem ok_check_both {P : Program} {w : World} {K : PySem.W.Frag} {mg : Str → Option Value} {base : Heap} {f : Addr} {fd : FuncData} {cls : Nat → Addr} (F : FunD K "check_both" "check_both" (defArgs (top 38)) (defBody (top 38)) (defScope (top 38)) [] [] f fd) (hm : mg "check_both" = some (.ref f)) (g : Free mg) (f_check_points : FnP P w K mg base cls 3 "check_points" 1 m_check_points) (x_BadPoints : ExcF K mg cls 2 "BadPoints") :
    FnP P w K mg base cls 4 "check_both" 2 m_check_both :=
  fn_pure (k := 3) F sc_check_both hm rfl (F.bindsN fun _ _ _ _ _ _ us hl => match us, hl with | [_, _], _ => rfl) fun cdv A outer s H E _ G hr => by
    have tk := takesE_of (P := P) (w := w) (K := K) (mg := mg) (base := base) (N := ["one", "other"]) (qual := "check_both") (scope := defScope (top 38)) (f := f) (cd := cdv) (A := A) (outer := outer) (s := s) (H := H) (E := E)
    have hx := passesE_of tk
    have hp := passesO_of (CX := L2.CX P w) (P := P) (w := w) (K := K) (mg := mg) (base := base) (N := ["one", "other"]) (qual := "check_both") (scope := defScope (top 38)) (f := f) (cd := cdv) (A := A) (outer := outer) (s := s) (H := H) (E := E)
    exact (dss_cons (O1 := []) (ds_expr (de_call f_check_points (hr.mono (by decide)) hx (da_cons (de_var 0) da_nil)))
      (dss_cons (O1 := []) (ds_expr (de_call f_check_points (hr.mono (by decide)) hx (da_cons (de_var 1) da_nil)))
      (dss_one (ds_if (dt_cmp (dop_ne hr.units) (de_ix (de_var 0) (de_un dun_neg de_int)) (de_ix (de_var 1) (de_un dun_neg de_int)))
      (dss_one (ds_raise tk (x_BadPoints.c)))
      dss_nil))))
theorem sc_height_ahead : FnScope ["points", "x", "own", "a", "b"] ["points", "x"] (defScope (top 40)) := ⟨rfl, rfl, rfl, by decide +kernel, rfl, by decide +kernel, by decide +kernel⟩
theorem ok_height_ahead {P : Program} {w : World} {K : PySem.W.Frag} {mg : Str → Option Value} {base : Heap} {f : Addr} {fd : FuncData} {cls : Nat → Addr} (F : FunD K "height_ahead" "height_ahead" (defArgs (top 40)) (defBody (top 40)) (defScope (top 40)) [] [] f fd) (hm : mg "height_ahead" = some (.ref f)) (g : Free mg) (f_height : FnP P w K mg base cls 3 "height" 2 m_height) :
    FnP P w K mg base cls 4 "height_ahead" 2 m_height_ahead :=
  fn_pure (k := 3) F sc_height_ahead hm rfl (F.bindsN fun _ _ _ _ _ _ us hl => match us, hl with | [_, _], _ => rfl) fun cdv A outer s H E _ G hr => by
    have tk := takesE_of (P := P) (w := w) (K := K) (mg := mg) (base := base) (N := ["points", "x", "own", "a", "b"]) (qual := "height_ahead") (scope := defScope (top 40)) (f := f) (cd := cdv) (A := A) (outer := outer) (s := s) (H := H) (E := E)
    have hx := passesE_of tk
    have hp := passesO_of (CX := L2.CX P w) (P := P) (w := w) (K := K) (mg := mg) (base := base) (N := ["points", "x", "own", "a", "b"]) (qual := "height_ahead") (scope := defScope (top 40)) (f := f) (cd := cdv) (A := A) (outer := outer) (s := s) (H := H) (E := E)
    exact (dss_cons (O1 := []) (ds_setLc 2 [("a", 3), ("b", 4)] sc_height_ahead.nd (sw_true rfl rfl rfl (by decide +kernel)) (di_list (de_var 0)) (by rfl) (fun _ _ _ _ _ => (dg_tup (bLen_cons (bLen_cons bLen_nil)) (dgs_cons (dg_name 3 sc_height_ahead.nd) (dgs_cons (dg_name 4 sc_height_ahead.nd) dgs_nil)))) (fun _ _ _ _ _ => (dts_one (dt_cmp (dop_eq hr.units) (de_var 3) (de_var 1)))) (fun _ _ _ _ _ => (de_tup (da_cons (de_var 4) (da_cons de_int da_nil)))))
      (dss_one (ds_ret (de_if (dt_cmp (dop_ne hr.units) (de_var 2) (de_lst da_nil)) (de_ix (de_var 2) de_int) (de_call f_height (hr.mono (by decide)) hx (da_cons (de_var 0) (da_cons (de_tup (da_cons (de_var 1) (da_cons de_int da_nil))) da_nil)))))))
theorem sc_things_with : FnScope ["points", "found", "k", "score", "sound", "faulty"] ["points"] (defScope (top 48)) := ⟨rfl, rfl, rfl, by decide +kernel, rfl, by decide +kernel, by decide +kernel⟩
theorem ok_things_with {P : Program} {w : World} {K : PySem.W.Frag} {mg : Str → Option Value} {base : Heap} {f : Addr} {fd : FuncData} {cls : Nat → Addr} (F : FunD K "things_with" "things_with" (defArgs (top 48)) (defBody (top 48)) (defScope (top 48)) [] [] f fd) (hm : mg "things_with" = some (.ref f)) (g : Free mg) (f_check_points : FnP P w K mg base cls 3 "check_points" 1 m_check_points) :
    FnP P w K mg base cls 4 "things_with" 1 m_things_with :=
  fn_pure (k := 3) F sc_things_with hm rfl (F.bindsN fun _ _ _ _ _ _ us hl => match us, hl with | [_], _ => rfl) fun cdv A outer s H E _ G hr => by
    have tk := takesE_of (P := P) (w := w) (K := K) (mg := mg) (base := base) (N := ["points", "found", "k", "score", "sound", "faulty"]) (qual := "things_with") (scope := defScope (top 48)) (f := f) (cd := cdv) (A := A) (outer := outer) (s := s) (H := H) (E := E)
    have hx := passesE_of tk
    have hp := passesO_of (CX := L2.CX P w) (P := P) (w := w) (K := K) (mg := mg) (base := base) (N := ["points", "found", "k", "score", "sound", "faulty"]) (qual := "things_with") (scope := defScope (top 48)) (f := f) (cd := cdv) (A := A) (outer := outer) (s := s) (H := H) (E := E)
    exact (dss_cons (O1 := []) (ds_expr (de_call f_check_points (hr.mono (by decide)) hx (da_cons (de_var 0) da_nil)))
      (dss_cons (O1 := [1]) (ds_setF (O' := [1]) 1 sc_things_with.nd (df_lst da_nil))
      (dss_cons (O1 := [1]) (ds_for hp (di_range1 g.range_ (da_cons (de_op dop_sub (de_callB dc_len g.len_ (da_cons (de_var 0) da_nil)) de_int) da_nil)) (dg_name 2 sc_things_with.nd) (fun _ =>
      (dss_cons (O1 := [1]) (ds_set 3 sc_things_with.nd (de_op dop_sub (de_op dop_sub (de_callB dc_len g.len_ (da_cons (de_var 0) da_nil)) de_int) (de_var 2)))
      (dss_cons (O1 := [1]) (ds_par 4 5 sc_things_with.nd (da_cons (de_op dop_sub (de_ix (de_ix (de_var 0) (de_op dop_add (de_var 2) de_int)) de_int) (de_ix (de_ix (de_var 0) (de_var 2)) de_int)) (da_cons (de_op dop_sub (de_ix (de_ix (de_var 0) (de_op dop_add (de_var 2) de_int)) de_int) (de_ix (de_ix (de_var 0) (de_var 2)) de_int)) da_nil)))
      (dss_one (ds_augL 1 sc_things_with.nd (de_op dop_add (de_op dop_mul (de_lst (da_cons (de_tup (da_cons (de_var 3) (da_cons de_bl da_nil))) da_nil)) (de_var 4)) (de_op dop_mul (de_lst (da_cons (de_tup (da_cons (de_var 3) (da_cons de_bl da_nil))) da_nil)) (de_var 5)))))))))
      (dss_less (O1 := []) (by decide) (dss_one (ds_ret (de_var 1)))))))
theorem sc_format_points : FnScope ["points", "false", "true"] ["points"] (defScope (top 57)) := ⟨rfl, rfl, rfl, by decide +kernel, rfl, by decide +kernel, by decide +kernel⟩
theorem ok_format_points {P : Program} {w : World} {K : PySem.W.Frag} {mg : Str → Option Value} {base : Heap} {f : Addr} {fd : FuncData} {cls : Nat → Addr} (F : FunD K "format_points" "format_points" (defArgs (top 57)) (defBody (top 57)) (defScope (top 57)) [] [] f fd) (hm : mg "format_points" = some (.ref f)) (g : Free mg) (f_check_points : FnP P w K mg base cls 3 "check_points" 1 m_check_points) :
    FnP P w K mg base cls 4 "format_points" 1 m_format_points :=
  fn_pure (k := 3) F sc_format_points hm rfl (F.bindsN fun _ _ _ _ _ _ us hl => match us, hl with | [_], _ => rfl) fun cdv A outer s H E _ G hr => by
    have tk := takesE_of (P := P) (w := w) (K := K) (mg := mg) (base := base) (N := ["points", "false", "true"]) (qual := "format_points") (scope := defScope (top 57)) (f := f) (cd := cdv) (A := A) (outer := outer) (s := s) (H := H) (E := E)
    have hx := passesE_of tk
    have hp := passesO_of (CX := L2.CX P w) (P := P) (w := w) (K := K) (mg := mg) (base := base) (N := ["points", "false", "true"]) (qual := "format_points") (scope := defScope (top 57)) (f := f) (cd := cdv) (A := A) (outer := outer) (s := s) (H := H) (E := E)
    exact (dss_cons (O1 := []) (ds_expr (de_call f_check_points (hr.mono (by decide)) hx (da_cons (de_var 0) da_nil)))
      (dss_one (ds_ret (de_txt PySem.F.slot_str_join PySem.F.type_str_join dm_join de_str (de_lc [("false", 1), ("true", 2)] sc_format_points.nd (di_list (de_var 0)) (by rfl) (fun _ _ _ _ _ => (dg_tup (bLen_cons (bLen_cons bLen_nil)) (dgs_cons (dg_name 1 sc_format_points.nd) (dgs_cons (dg_name 2 sc_format_points.nd) dgs_nil)))) (fun _ _ _ _ _ => dts_nil) (fun _ _ _ _ _ => (de_f3 (de_var 1) (de_var 2))))))))
theorem sc_mixed_alarms : FnScope ["things", "first", "second", "share"] ["things", "first", "second", "share"] (defScope (top 36)) := ⟨rfl, rfl, rfl, by decide +kernel, rfl, by decide +kernel, by decide +kernel⟩
theorem ok_mixed_alarms {P : Program} {w : World} {K : PySem.W.Frag} {mg : Str → Option Value} {base : Heap} {f : Addr} {fd : FuncData} {cls : Nat → Addr} (F : FunD K "mixed_alarms" "mixed_alarms" (defArgs (top 36)) (defBody (top 36)) (defScope (top 36)) [] [] f fd) (hm : mg "mixed_alarms" = some (.ref f)) (g : Free mg) (f_check_things : FnP P w K mg base cls 4 "check_things" 1 m_check_things) (f_check_share : FnP P w K mg base cls 2 "check_share" 1 m_check_share) (f_mean_point : FnP P w K mg base cls 4 "mean_point" 3 m_mean_point) (f_counts : FnP P w K mg base cls 1 "counts" 2 m_counts) (f_is_int : FnP P w K mg base cls 1 "is_int" 3 m_is_int) (x_BadNumber : ExcF K mg cls 1 "BadNumber") :
    FnP P w K mg base cls 5 "mixed_alarms" 4 m_mixed_alarms :=
  fn_pure (k := 4) F sc_mixed_alarms hm rfl (F.bindsN fun _ _ _ _ _ _ us hl => match us, hl with | [_, _, _, _], _ => rfl) fun cdv A outer s H E _ G hr => by
    have tk := takesE_of (P := P) (w := w) (K := K) (mg := mg) (base := base) (N := ["things", "first", "second", "share"]) (qual := "mixed_alarms") (scope := defScope (top 36)) (f := f) (cd := cdv) (A := A) (outer := outer) (s := s) (H := H) (E := E)
    have hx := passesE_of tk
    have hp := passesO_of (CX := L2.CX P w) (P := P) (w := w) (K := K) (mg := mg) (base := base) (N := ["things", "first", "second", "share"]) (qual := "mixed_alarms") (scope := defScope (top 36)) (f := f) (cd := cdv) (A := A) (outer := outer) (s := s) (H := H) (E := E)
    exact (dss_cons (O1 := []) (ds_expr (de_call f_check_things (hr.mono (by decide)) hx (da_cons (de_var 0) da_nil)))
      (dss_cons (O1 := []) (ds_if (dt_bool (dw_or (dt_not (dt_val (de_call f_is_int (hr.mono (by decide)) hx (da_cons (de_var 1) (da_cons de_int (da_cons de_int da_nil)))))) (dw_or1 (dt_not (dt_val (de_call f_is_int (hr.mono (by decide)) hx (da_cons (de_var 2) (da_cons de_int (da_cons de_int da_nil)))))))))
      (dss_one (ds_raise tk (x_BadNumber.c)))
      dss_nil)
      (dss_cons (O1 := []) (ds_expr (de_call f_check_share (hr.mono (by decide)) hx (da_cons (de_var 3) da_nil)))
      (dss_one (ds_ret (de_call f_mean_point (hr.mono (by decide)) hx (da_cons (de_call f_counts (hr.mono (by decide)) hx (da_cons (de_var 0) (da_cons (de_var 1) da_nil))) (da_cons (de_call f_counts (hr.mono (by decide)) hx (da_cons (de_var 0) (da_cons (de_var 2) da_nil))) (da_cons (de_var 3) da_nil)))))))))
theorem sc_is_above : FnScope ["one", "other", "x"] ["one", "other"] (defScope (top 41)) := ⟨rfl, rfl, rfl, by decide +kernel, rfl, by decide +kernel, by decide +kernel⟩
theorem ok_is_above {P : Program} {w : World} {K : PySem.W.Frag} {mg : Str → Option Value} {base : Heap} {f : Addr} {fd : FuncData} {cls : Nat → Addr} (F : FunD K "is_above" "is_above" (defArgs (top 41)) (defBody (top 41)) (defScope (top 41)) [] [] f fd) (hm : mg "is_above" = some (.ref f)) (g : Free mg) (f_check_both : FnP P w K mg base cls 4 "check_both" 2 m_check_both) (f_less : FnP P w K mg base cls 1 "less" 2 m_less) (f_height : FnP P w K mg base cls 3 "height" 2 m_height) (f_height_ahead : FnP P w K mg base cls 4 "height_ahead" 2 m_height_ahead) :
    FnP P w K mg base cls 5 "is_above" 2 m_is_above :=
  fn_pure (k := 4) F sc_is_above hm rfl (F.bindsN fun _ _ _ _ _ _ us hl => match us, hl with | [_, _], _ => rfl) fun cdv A outer s H E _ G hr => by
    have tk := takesE_of (P := P) (w := w) (K := K) (mg := mg) (base := base) (N := ["one", "other", "x"]) (qual := "is_above") (scope := defScope (top 41)) (f := f) (cd := cdv) (A := A) (outer := outer) (s := s) (H := H) (E := E)
    have hx := passesE_of tk
    have hp := passesO_of (CX := L2.CX P w) (P := P) (w := w) (K := K) (mg := mg) (base := base) (N := ["one", "other", "x"]) (qual := "is_above") (scope := defScope (top 41)) (f := f) (cd := cdv) (A := A) (outer := outer) (s := s) (H := H) (E := E)
    exact (dss_cons (O1 := []) (ds_expr (de_call f_check_both (hr.mono (by decide)) hx (da_cons (de_var 0) (da_cons (de_var 1) da_nil))))
      (dss_cons (O1 := []) (ds_for hp (di_range1 g.range_ (da_cons (de_op dop_add (de_ix (de_ix (de_var 0) (de_un dun_neg de_int)) de_int) de_int) da_nil)) (dg_name 2 sc_is_above.nd) (fun _ =>
      (dss_cons (O1 := []) (ds_if (dt_val (de_call f_less (hr.mono (by decide)) hx (da_cons (de_call f_height (hr.mono (by decide)) hx (da_cons (de_var 0) (da_cons (de_tup (da_cons (de_var 2) (da_cons de_int da_nil))) da_nil))) (da_cons (de_call f_height (hr.mono (by decide)) hx (da_cons (de_var 1) (da_cons (de_tup (da_cons (de_var 2) (da_cons de_int da_nil))) da_nil))) da_nil))))
      (dss_one (ds_ret de_bl))
      dss_nil)
      (dss_one (ds_if (dt_bool (dw_and (dt_cmp dop_gt (de_var 2) de_int) (dw_and1 (dt_val (de_call f_less (hr.mono (by decide)) hx (da_cons (de_call f_height_ahead (hr.mono (by decide)) hx (da_cons (de_var 0) (da_cons (de_var 2) da_nil))) (da_cons (de_call f_height_ahead (hr.mono (by decide)) hx (da_cons (de_var 1) (da_cons (de_var 2) da_nil))) da_nil)))))))
      (dss_one (ds_ret de_bl))
      dss_nil)))))
      (dss_one (ds_ret de_bl))))
theorem sc_first_below : FnScope ["one", "other", "x"] ["one", "other"] (defScope (top 42)) := ⟨rfl, rfl, rfl, by decide +kernel, rfl, by decide +kernel, by decide +kernel⟩
theorem ok_first_below {P : Program} {w : World} {K : PySem.W.Frag} {mg : Str → Option Value} {base : Heap} {f : Addr} {fd : FuncData} {cls : Nat → Addr} (F : FunD K "first_below" "first_below" (defArgs (top 42)) (defBody (top 42)) (defScope (top 42)) [] [] f fd) (hm : mg "first_below" = some (.ref f)) (g : Free mg) (f_check_both : FnP P w K mg base cls 4 "check_both" 2 m_check_both) (f_less : FnP P w K mg base cls 1 "less" 2 m_less) (f_height : FnP P w K mg base cls 3 "height" 2 m_height) :
    FnP P w K mg base cls 5 "first_below" 2 m_first_below :=
  fn_pure (k := 4) F sc_first_below hm rfl (F.bindsN fun _ _ _ _ _ _ us hl => match us, hl with | [_, _], _ => rfl) fun cdv A outer s H E _ G hr => by
    have tk := takesE_of (P := P) (w := w) (K := K) (mg := mg) (base := base) (N := ["one", "other", "x"]) (qual := "first_below") (scope := defScope (top 42)) (f := f) (cd := cdv) (A := A) (outer := outer) (s := s) (H := H) (E := E)
    have hx := passesE_of tk
    have hp := passesO_of (CX := L2.CX P w) (P := P) (w := w) (K := K) (mg := mg) (base := base) (N := ["one", "other", "x"]) (qual := "first_below") (scope := defScope (top 42)) (f := f) (cd := cdv) (A := A) (outer := outer) (s := s) (H := H) (E := E)
    exact (dss_cons (O1 := []) (ds_expr (de_call f_check_both (hr.mono (by decide)) hx (da_cons (de_var 0) (da_cons (de_var 1) da_nil))))
      (dss_cons (O1 := []) (ds_for hp (di_range1 g.range_ (da_cons (de_op dop_add (de_ix (de_ix (de_var 0) (de_un dun_neg de_int)) de_int) de_int) da_nil)) (dg_name 2 sc_first_below.nd) (fun _ =>
      (dss_one (ds_if (dt_val (de_call f_less (hr.mono (by decide)) hx (da_cons (de_call f_height (hr.mono (by decide)) hx (da_cons (de_var 0) (da_cons (de_tup (da_cons (de_var 2) (da_cons de_int da_nil))) da_nil))) (da_cons (de_call f_height (hr.mono (by decide)) hx (da_cons (de_var 1) (da_cons (de_tup (da_cons (de_var 2) (da_cons de_int da_nil))) da_nil))) da_nil))))
      (dss_one (ds_ret (de_var 2)))
      dss_nil))))
      (dss_one (ds_ret de_non))))
theorem sc_area_difference : FnScope ["one", "other"] ["one", "other"] (defScope (top 43)) := ⟨rfl, rfl, rfl, by decide +kernel, rfl, by decide +kernel, by decide +kernel⟩
theorem ok_area_difference {P : Program} {w : World} {K : PySem.W.Frag} {mg : Str → Option Value} {base : Heap} {f : Addr} {fd : FuncData} {cls : Nat → Addr} (F : FunD K "area_difference" "area_difference" (defArgs (top 43)) (defBody (top 43)) (defScope (top 43)) [] [] f fd) (hm : mg "area_difference" = some (.ref f)) (g : Free mg) (f_check_both : FnP P w K mg base cls 4 "check_both" 2 m_check_both) (f_double_area : FnP P w K mg base cls 1 "double_area" 1 m_double_area) :
    FnP P w K mg base cls 5 "area_difference" 2 m_area_difference :=
  fn_pure (k := 4) F sc_area_difference hm rfl (F.bindsN fun _ _ _ _ _ _ us hl => match us, hl with | [_, _], _ => rfl) fun cdv A outer s H E _ G hr => by
    have tk := takesE_of (P := P) (w := w) (K := K) (mg := mg) (base := base) (N := ["one", "other"]) (qual := "area_difference") (scope := defScope (top 43)) (f := f) (cd := cdv) (A := A) (outer := outer) (s := s) (H := H) (E := E)
    have hx := passesE_of tk
    have hp := passesO_of (CX := L2.CX P w) (P := P) (w := w) (K := K) (mg := mg) (base := base) (N := ["one", "other"]) (qual := "area_difference") (scope := defScope (top 43)) (f := f) (cd := cdv) (A := A) (outer := outer) (s := s) (H := H) (E := E)
    exact (dss_cons (O1 := []) (ds_expr (de_call f_check_both (hr.mono (by decide)) hx (da_cons (de_var 0) (da_cons (de_var 1) da_nil))))
      (dss_one (ds_ret (de_op dop_sub (de_call f_double_area (hr.mono (by decide)) hx (da_cons (de_var 0) da_nil)) (de_call f_double_area (hr.mono (by decide)) hx (da_cons (de_var 1) da_nil))))))
theorem sc_joined : FnScope ["things", "other", "found"] ["things", "other"] (defScope (top 44)) := ⟨rfl, rfl, rfl, by decide +kernel, rfl, by decide +kernel, by decide +kernel⟩
theorem ok_joined {P : Program} {w : World} {K : PySem.W.Frag} {mg : Str → Option Value} {base : Heap} {f : Addr} {fd : FuncData} {cls : Nat → Addr} (F : FunD K "joined" "joined" (defArgs (top 44)) (defBody (top 44)) (defScope (top 44)) [] [] f fd) (hm : mg "joined" = some (.ref f)) (g : Free mg) (f_check_things : FnP P w K mg base cls 4 "check_things" 1 m_check_things) :
    FnP P w K mg base cls 5 "joined" 2 m_joined :=
  fn_pure (k := 4) F sc_joined hm rfl (F.bindsN fun _ _ _ _ _ _ us hl => match us, hl with | [_, _], _ => rfl) fun cdv A outer s H E _ G hr => by
    have tk := takesE_of (P := P) (w := w) (K := K) (mg := mg) (base := base) (N := ["things", "other", "found"]) (qual := "joined") (scope := defScope (top 44)) (f := f) (cd := cdv) (A := A) (outer := outer) (s := s) (H := H) (E := E)
    have hx := passesE_of tk
    have hp := passesO_of (CX := L2.CX P w) (P := P) (w := w) (K := K) (mg := mg) (base := base) (N := ["things", "other", "found"]) (qual := "joined") (scope := defScope (top 44)) (f := f) (cd := cdv) (A := A) (outer := outer) (s := s) (H := H) (E := E)
    exact (dss_cons (O1 := []) (ds_expr (de_call f_check_things (hr.mono (by decide)) hx (da_cons (de_var 0) da_nil)))
      (dss_cons (O1 := []) (ds_expr (de_call f_check_things (hr.mono (by decide)) hx (da_cons (de_var 1) da_nil)))
      (dss_cons (O1 := []) (ds_set 2 sc_joined.nd (de_op dop_add (de_var 0) (de_var 1)))
      (dss_cons (O1 := []) (ds_expr (de_call f_check_things (hr.mono (by decide)) hx (da_cons (de_var 2) da_nil)))
      (dss_one (ds_ret (de_var 2)))))))
theorem sc_led : FnScope ["things", "table", "score", "faulty", "k"] ["things", "table"] (defScope (top 45)) := ⟨rfl, rfl, rfl, by decide +kernel, rfl, by decide +kernel, by decide +kernel⟩
theorem ok_led {P : Program} {w : World} {K : PySem.W.Frag} {mg : Str → Option Value} {base : Heap} {f : Addr} {fd : FuncData} {cls : Nat → Addr} (F : FunD K "led" "led" (defArgs (top 45)) (defBody (top 45)) (defScope (top 45)) [] [] f fd) (hm : mg "led" = some (.ref f)) (g : Free mg) (f_check_things : FnP P w K mg base cls 4 "check_things" 1 m_check_things) (f_is_int : FnP P w K mg base cls 1 "is_int" 3 m_is_int) (x_BadNumber : ExcF K mg cls 1 "BadNumber") :
    FnP P w K mg base cls 5 "led" 2 m_led :=
  fn_pure (k := 4) F sc_led hm rfl (F.bindsN fun _ _ _ _ _ _ us hl => match us, hl with | [_, _], _ => rfl) fun cdv A outer s H E _ G hr => by
    have tk := takesE_of (P := P) (w := w) (K := K) (mg := mg) (base := base) (N := ["things", "table", "score", "faulty", "k"]) (qual := "led") (scope := defScope (top 45)) (f := f) (cd := cdv) (A := A) (outer := outer) (s := s) (H := H) (E := E)
    have hx := passesE_of tk
    have hp := passesO_of (CX := L2.CX P w) (P := P) (w := w) (K := K) (mg := mg) (base := base) (N := ["things", "table", "score", "faulty", "k"]) (qual := "led") (scope := defScope (top 45)) (f := f) (cd := cdv) (A := A) (outer := outer) (s := s) (H := H) (E := E)
    exact (dss_cons (O1 := []) (ds_expr (de_call f_check_things (hr.mono (by decide)) hx (da_cons (de_var 0) da_nil)))
      (dss_cons (O1 := []) (ds_if (dt_bool (dw_or (dt_not (dt_val (de_isi tyOk_tuple g.isinstance_ g.tuple_ (de_var 1)))) (dw_or (dt_cmp (dop_ne hr.units) (de_callB dc_len g.len_ (da_cons (de_var 1) da_nil)) de_int) (dw_or1 (dt_not (dt_val (de_callB (dc_all rfl) g.all_ (da_cons (de_lc [("score", 2)] sc_led.nd (di_tup (de_var 1)) (by rfl) (fun _ _ _ _ _ => (dg_name 2 sc_led.nd)) (fun _ _ _ _ _ => dts_nil) (fun _ _ _ _ _ => (de_call f_is_int (hr.mono (by decide)) passL (da_cons (de_var 2) (da_cons de_int (da_cons de_int da_nil)))))) da_nil))))))))
      (dss_one (ds_raise tk (x_BadNumber.c)))
      dss_nil)
      (dss_cons (O1 := []) (ds_if (dt_not (dt_val (de_callB (dc_all rfl) g.all_ (da_cons (de_lc [("k", 4)] sc_led.nd (di_range1 g.range_ (da_cons de_int da_nil)) (by rfl) (fun _ _ _ _ _ => (dg_name 4 sc_led.nd)) (fun _ _ _ _ _ => dts_nil) (fun _ _ _ _ _ => (de_cmp dop_le (de_ix (de_var 1) (de_var 4)) (de_ix (de_var 1) (de_op dop_add (de_var 4) de_int))))) da_nil))))
      (dss_one (ds_raise tk (x_BadNumber.c)))
      dss_nil)
      (dss_one (ds_ret (de_lc [("score", 2), ("faulty", 3)] sc_led.nd (di_list (de_var 0)) (by rfl) (fun _ _ _ _ _ => (dg_tup (bLen_cons (bLen_cons bLen_nil)) (dgs_cons (dg_name 2 sc_led.nd) (dgs_cons (dg_name 3 sc_led.nd) dgs_nil)))) (fun _ _ _ _ _ => dts_nil) (fun _ _ _ _ _ => (de_tup (da_cons (de_ix (de_var 1) (de_var 2)) (da_cons (de_var 3) da_nil))))))))))
theorem sc_ways_to : FnScope ["point", "known", "found", "x", "y", "curve"] ["point", "known"] (defScope (top 50)) := ⟨rfl, rfl, rfl, by decide +kernel, rfl, by decide +kernel, by decide +kernel⟩
theorem ok_ways_to {P : Program} {w : World} {K : PySem.W.Frag} {mg : Str → Option Value} {base : Heap} {f : Addr} {fd : FuncData} {cls : Nat → Addr} (F : FunD K "ways_to" "ways_to" (defArgs (top 50)) (defBody (top 50)) (defScope (top 50)) [] [] f fd) (hm : mg "ways_to" = some (.ref f)) (g : Free mg) : ∀ n : Nat, FnO P w K mg base cls (Wk cls) (n + 1) "ways_to" 2 (fun _ => m_ways_to n)
  | 0 => ⟨_, _, _, fn_none F sc_ways_to rfl, hm, F.kp, (F.bindsN fun _ _ _ _ _ _ us hl => match us, hl with | [_, _], _ => rfl)⟩
  | n + 1 => by
    have o_ways_to : FnO P w K mg base cls (Wk cls) (n + 1) "ways_to" 2 (fun _ => m_ways_to n) := ok_ways_to F hm g n
    refine ⟨_, _, _, fn_O (k := n + 1) (Fm := Wk cls) (fb := fun _ => b_ways_to (m_ways_to n)) F sc_ways_to rfl (fun _ _ => rfl) (fun cdv A outer s H E i G sb hr => ?_), hm, F.kp, (F.bindsN fun _ _ _ _ _ _ us hl => match us, hl with | [_, _], _ => rfl)⟩
    have hp := passesO_of (CX := L2.CX P w) (P := P) (w := w) (K := K) (mg := mg) (base := base) (N := ["point", "known", "found", "x", "y", "curve"]) (qual := "ways_to") (scope := defScope (top 50)) (f := f) (cd := cdv) (A := A) (outer := outer) (s := s) (H := H) (E := E)
    exact (dss_cons (O1 := []) (ds_if (dt_cmp (dop_eq hr.units) (de_var 0) (de_tup (da_cons de_int (da_cons de_int da_nil))))
      (dss_one (ds_ret (de_lst (da_cons (de_lst (da_cons (de_tup (da_cons de_int (da_cons de_int da_nil))) da_nil)) da_nil))))
      dss_nil)
      (dss_cons (O1 := []) (ds_if (dt_dnotin (hu_of hr) (de_var 0) (de_var 1))
      (dss_cons (O1 := [2]) (ds_setF (O' := [2]) 2 sc_ways_to.nd (df_lst da_nil))
      (dss_cons (O1 := [2]) (ds_for hp (di_range1 g.range_ (da_cons (de_op dop_add (de_ix (de_var 0) de_int) de_int) da_nil)) (dg_name 3 sc_ways_to.nd) (fun _ =>
      (dss_one (ds_for hp (di_range1 g.range_ (da_cons (de_op dop_add (de_ix (de_var 0) de_int) de_int) da_nil)) (dg_name 4 sc_ways_to.nd) (fun _ =>
      (dss_one (ds_if (dt_cmp (dop_ne hr.units) (de_tup (da_cons (de_var 3) (da_cons (de_var 4) da_nil))) (de_var 0))
      (dss_one (ds_augL 2 sc_ways_to.nd (de_lc [("curve", 5)] sc_ways_to.nd (di_list (de_oWk o_ways_to (hr.mono (by first | decide | exact Nat.le_refl _)) (da_cons (de_tup (da_cons (de_var 3) (da_cons (de_var 4) da_nil))) (da_cons (de_var 1) da_nil)))) (by rfl) (fun _ _ _ _ _ => (dg_name 5 sc_ways_to.nd)) (fun _ _ _ _ _ => dts_nil) (fun _ _ _ _ _ => (de_op dop_add (de_var 5) (de_lst (da_cons (de_var 0) da_nil)))))))
      dss_nil)))))))
      (dss_less (O1 := []) (by decide) (dss_one (ds_dput (hu_of hr) (de_var 1) (de_var 0) (de_callB (dc_sortedL hr.units) g.sorted_ (da_cons (de_var 2) da_nil)))))))
      dss_nil)
      (dss_one (ds_ret (de_dget (hu_of hr) (de_var 1) (de_var 0))))))
theorem sc_all_curves : FnScope ["sound", "faulty"] ["sound", "faulty"] (defScope (top 51)) := ⟨rfl, rfl, rfl, by decide +kernel, rfl, by decide +kernel, by decide +kernel⟩
theorem ok_all_curves {P : Program} {w : World} {K : PySem.W.Frag} {mg : Str → Option Value} {base : Heap} {f : Addr} {fd : FuncData} {cls : Nat → Addr} (F : FunD K "all_curves" "all_curves" (defArgs (top 51)) (defBody (top 51)) (defScope (top 51)) [] [] f fd) (hm : mg "all_curves" = some (.ref f)) (g : Free mg) (f_check_numbers : FnP P w K mg base cls 2 "check_numbers" 2 m_check_numbers) (o_ways_to : FnO P w K mg base cls (Wk cls) 9 "ways_to" 2 (fun _ => m_ways_to 8)) (x_BadNumber : ExcF K mg cls 1 "BadNumber") :
    FnP P w K mg base cls 10 "all_curves" 2 m_all_curves :=
  fn_pure (k := 9) F sc_all_curves hm rfl (F.bindsN fun _ _ _ _ _ _ us hl => match us, hl with | [_, _], _ => rfl) fun cdv A outer s H E _ G hr => by
    have tk := takesE_of (P := P) (w := w) (K := K) (mg := mg) (base := base) (N := ["sound", "faulty"]) (qual := "all_curves") (scope := defScope (top 51)) (f := f) (cd := cdv) (A := A) (outer := outer) (s := s) (H := H) (E := E)
    have hx := passesE_of tk
    have hp := passesO_of (CX := L2.CX P w) (P := P) (w := w) (K := K) (mg := mg) (base := base) (N := ["sound", "faulty"]) (qual := "all_curves") (scope := defScope (top 51)) (f := f) (cd := cdv) (A := A) (outer := outer) (s := s) (H := H) (E := E)
    exact (dss_cons (O1 := []) (ds_expr (de_call f_check_numbers (hr.mono (by decide)) hx (da_cons (de_var 0) (da_cons (de_var 1) da_nil))))
      (dss_cons (O1 := []) (ds_if (dt_bool (dw_or (dt_cmp dop_gt (de_var 0) de_int) (dw_or1 (dt_cmp dop_gt (de_var 1) de_int))))
      (dss_one (ds_raise tk (x_BadNumber.c)))
      dss_nil)
      (dss_one (ds_retN o_ways_to (hr.mono (by decide)) (de_tup (da_cons (de_var 0) (da_cons (de_var 1) da_nil)))))))
theorem sc_curve_at : FnScope ["sound", "faulty", "rank", "found"] ["sound", "faulty", "rank"] (defScope (top 53)) := ⟨rfl, rfl, rfl, by decide +kernel, rfl, by decide +kernel, by decide +kernel⟩
theorem ok_curve_at {P : Program} {w : World} {K : PySem.W.Frag} {mg : Str → Option Value} {base : Heap} {f : Addr} {fd : FuncData} {cls : Nat → Addr} (F : FunD K "curve_at" "curve_at" (defArgs (top 53)) (defBody (top 53)) (defScope (top 53)) [] [] f fd) (hm : mg "curve_at" = some (.ref f)) (g : Free mg) (f_all_curves : FnP P w K mg base cls 10 "all_curves" 2 m_all_curves) (f_is_int : FnP P w K mg base cls 1 "is_int" 3 m_is_int) (x_BadNumber : ExcF K mg cls 1 "BadNumber") :
    FnP P w K mg base cls 11 "curve_at" 3 m_curve_at :=
  fn_pure (k := 10) F sc_curve_at hm rfl (F.bindsN fun _ _ _ _ _ _ us hl => match us, hl with | [_, _, _], _ => rfl) fun cdv A outer s H E _ G hr => by
    have tk := takesE_of (P := P) (w := w) (K := K) (mg := mg) (base := base) (N := ["sound", "faulty", "rank", "found"]) (qual := "curve_at") (scope := defScope (top 53)) (f := f) (cd := cdv) (A := A) (outer := outer) (s := s) (H := H) (E := E)
    have hx := passesE_of tk
    have hp := passesO_of (CX := L2.CX P w) (P := P) (w := w) (K := K) (mg := mg) (base := base) (N := ["sound", "faulty", "rank", "found"]) (qual := "curve_at") (scope := defScope (top 53)) (f := f) (cd := cdv) (A := A) (outer := outer) (s := s) (H := H) (E := E)
    exact (dss_cons (O1 := []) (ds_set 3 sc_curve_at.nd (de_call f_all_curves (hr.mono (by decide)) hx (da_cons (de_var 0) (da_cons (de_var 1) da_nil))))
      (dss_cons (O1 := []) (ds_if (dt_not (dt_val (de_call f_is_int (hr.mono (by decide)) hx (da_cons (de_var 2) (da_cons de_int (da_cons (de_op dop_sub (de_callB dc_len g.len_ (da_cons (de_var 3) da_nil)) de_int) da_nil))))))
      (dss_one (ds_raise tk (x_BadNumber.c)))
      dss_nil)
      (dss_one (ds_ret (de_ix (de_var 3) (de_var 2))))))
theorem sc__law_call : FnScope ["kind", "one", "two", "three"] ["kind", "one", "two", "three"] (defScope (top 62)) := ⟨rfl, rfl, rfl, by decide +kernel, rfl, by decide +kernel, by decide +kernel⟩
theorem ok__law_call {P : Program} {w : World} {K : PySem.W.Frag} {mg : Str → Option Value} {base : Heap} {f : Addr} {fd : FuncData} {cls : Nat → Addr} (F : FunD K "_law_call" "_law_call" (defArgs (top 62)) (defBody (top 62)) (defScope (top 62)) [] [] f fd) (hm : mg "_law_call" = some (.ref f)) (g : Free mg) {C : Addr} (T : WaC K mg C) (i_W : FnI P w K mg base cls C 3) (f_hull_of : FnP P w K mg base cls 4 "hull_of" 1 m_hull_of) (f_things_with : FnP P w K mg base cls 4 "things_with" 1 m_things_with) (f_format_points : FnP P w K mg base cls 4 "format_points" 1 m_format_points) (f_hull_height : FnP P w K mg base cls 4 "hull_height" 2 m_hull_height) (f_is_above : FnP P w K mg base cls 5 "is_above" 2 m_is_above) (f_first_below : FnP P w K mg base cls 5 "first_below" 2 m_first_below) (f_area_difference : FnP P w K mg base cls 5 "area_difference" 2 m_area_difference) (f_led : FnP P w K mg base cls 5 "led" 2 m_led) (f_joined : FnP P w K mg base cls 5 "joined" 2 m_joined) (f_mixed_alarms : FnP P w K mg base cls 5 "mixed_alarms" 4 m_mixed_alarms) (f_count_curves : FnP P w K mg base cls 3 "count_curves" 2 m_count_curves) (f_all_curves : FnP P w K mg base cls 10 "all_curves" 2 m_all_curves) (f_curve_at : FnP P w K mg base cls 11 "curve_at" 3 m_curve_at) :
    FnJ P w K mg base cls 12 "_law_call" 4 m__law_call :=
  fn_J (k := 11) F sc__law_call hm rfl (F.bindsN fun _ _ _ _ _ _ us hl => match us, hl with | [_, _, _, _], _ => rfl) fun cdv A outer s H E _ G hr => by
    have tk := takesE_of (P := P) (w := w) (K := K) (mg := mg) (base := base) (N := ["kind", "one", "two", "three"]) (qual := "_law_call") (scope := defScope (top 62)) (f := f) (cd := cdv) (A := A) (outer := outer) (s := s) (H := H) (E := E)
    have hx := passesE_of tk
    exact (psj_cons (psj_if (dt_cmp (dop_eq hr.units) (de_var 0) de_int) (pss_one (psj_of (ds_ret (de_call f_hull_of (hr.mono (by decide)) hx (da_cons (de_var 1) da_nil))))) psj_nil)
      (psj_cons (psj_if (dt_cmp (dop_eq hr.units) (de_var 0) de_int) (pss_one (psj_of (ds_ret (de_call f_things_with (hr.mono (by decide)) hx (da_cons (de_var 1) da_nil))))) psj_nil)
      (psj_cons (psj_if (dt_cmp (dop_eq hr.units) (de_var 0) de_int) (pss_one (psj_of (ds_ret (de_call f_format_points (hr.mono (by decide)) hx (da_cons (de_var 1) da_nil))))) psj_nil)
      (psj_cons (psj_if (dt_cmp (dop_eq hr.units) (de_var 0) de_int) (pss_one (psj_of (ds_ret (de_call f_hull_height (hr.mono (by decide)) hx (da_cons (de_var 1) (da_cons (de_var 2) da_nil)))))) psj_nil)
      (psj_cons (psj_if (dt_cmp (dop_eq hr.units) (de_var 0) de_int) (pss_one (psj_of (ds_ret (de_call f_is_above (hr.mono (by decide)) hx (da_cons (de_var 1) (da_cons (de_var 2) da_nil)))))) psj_nil)
      (psj_cons (psj_if (dt_cmp (dop_eq hr.units) (de_var 0) de_int) (pss_one (psj_of (ds_ret (de_call f_first_below (hr.mono (by decide)) hx (da_cons (de_var 1) (da_cons (de_var 2) da_nil)))))) psj_nil)
      (psj_cons (psj_if (dt_cmp (dop_eq hr.units) (de_var 0) de_int) (pss_one (psj_of (ds_ret (de_call f_area_difference (hr.mono (by decide)) hx (da_cons (de_var 1) (da_cons (de_var 2) da_nil)))))) psj_nil)
      (psj_cons (psj_if (dt_cmp (dop_eq hr.units) (de_var 0) de_int) (pss_one (psj_of (ds_ret (de_call f_led (hr.mono (by decide)) hx (da_cons (de_var 1) (da_cons (de_var 2) da_nil)))))) psj_nil)
      (psj_cons (psj_if (dt_cmp (dop_eq hr.units) (de_var 0) de_int) (pss_one (psj_of (ds_ret (de_call f_joined (hr.mono (by decide)) hx (da_cons (de_var 1) (da_cons (de_var 2) da_nil)))))) psj_nil)
      (psj_cons (psj_if (dt_cmp (dop_eq hr.units) (de_var 0) de_int) (pss_one (psj_of (ds_ret (de_call f_mixed_alarms (hr.mono (by decide)) hx (da_cons (de_lst (da_cons (de_tup (da_cons de_int (da_cons de_bl da_nil))) da_nil)) (da_cons de_int (da_cons de_int (da_cons (de_var 1) da_nil)))))))) psj_nil)
      (psj_cons (psj_if (dt_cmp (dop_eq hr.units) (de_var 0) de_int) (pss_one (psj_of (ds_ret (de_call f_count_curves (hr.mono (by decide)) hx (da_cons (de_var 1) (da_cons (de_var 2) da_nil)))))) psj_nil)
      (psj_cons (psj_if (dt_cmp (dop_eq hr.units) (de_var 0) de_int) (pss_one (psj_of (ds_ret (de_call f_all_curves (hr.mono (by decide)) hx (da_cons (de_var 1) (da_cons (de_var 2) da_nil)))))) psj_nil)
      (psj_cons (psj_if (dt_cmp (dop_eq hr.units) (de_var 0) de_int) (pss_one (psj_of (ds_ret (de_call f_curve_at (hr.mono (by decide)) hx (da_cons (de_var 1) (da_cons (de_var 2) (da_cons (de_var 3) da_nil))))))) psj_nil)
      (psj_cons (psj_if (dt_cmp (dop_eq hr.units) (de_var 0) de_int) (pss_one (psj_watch T i_W (hr.mono (by decide)) hx (de_var 1))) psj_nil)
      (psj_cons (psj_if (dt_cmp (dop_eq hr.units) (de_var 0) de_int) (pss_one (psj_of ds_bad)) psj_nil)
      (pss_one (psj_of ds_bad)))))))))))))))))
theorem ox__law_call {P : Program} {w : World} {K : PySem.W.Frag} {mg : Str → Option Value} {base : Heap} {f : Addr} {fd : FuncData} {cls : Nat → Addr} (F : FunD K "_law_call" "_law_call" (defArgs (top 62)) (defBody (top 62)) (defScope (top 62)) [] [] f fd) (hm : mg "_law_call" = some (.ref f)) (g : Free mg) {C : Addr} (T : WaC K mg C) (w_push : FnM P w K mg base cls C 3 "push" 2 m_push) (w_move : FnM P w K mg base cls C 3 "move" 2 m_W_move) (w_undo : FnM P w K mg base cls C 1 "undo" 1 m_undo) :
    FnX P w K mg base cls C 12 "_law_call" 4 x__law_call :=
  fn_X (k := 11) F sc__law_call hm rfl (F.bindsN fun _ _ _ _ _ _ us hl => match us, hl with | [_, _, _, _], _ => rfl) fun cdv A outer s H E i G hr => by
    have tk := takesE_of (P := P) (w := w) (K := K) (mg := mg) (base := base) (N := ["kind", "one", "two", "three"]) (qual := "_law_call") (scope := defScope (top 62)) (f := f) (cd := cdv) (A := A) (outer := outer) (s := s) (H := H) (E := E)
    have hx := passesE_of tk
    exact (psx_skip (dt_cmp (dop_eq hr.units) (de_var 0) de_int)
      (psx_skip (dt_cmp (dop_eq hr.units) (de_var 0) de_int)
      (psx_skip (dt_cmp (dop_eq hr.units) (de_var 0) de_int)
      (psx_skip (dt_cmp (dop_eq hr.units) (de_var 0) de_int)
      (psx_skip (dt_cmp (dop_eq hr.units) (de_var 0) de_int)
      (psx_skip (dt_cmp (dop_eq hr.units) (de_var 0) de_int)
      (psx_skip (dt_cmp (dop_eq hr.units) (de_var 0) de_int)
      (psx_skip (dt_cmp (dop_eq hr.units) (de_var 0) de_int)
      (psx_skip (dt_cmp (dop_eq hr.units) (de_var 0) de_int)
      (psx_skip (dt_cmp (dop_eq hr.units) (de_var 0) de_int)
      (psx_skip (dt_cmp (dop_eq hr.units) (de_var 0) de_int)
      (psx_skip (dt_cmp (dop_eq hr.units) (de_var 0) de_int)
      (psx_skip (dt_cmp (dop_eq hr.units) (de_var 0) de_int)
      (psx_skip (dt_cmp (dop_eq hr.units) (de_var 0) de_int)
      (psx_then (dt_cmp (dop_eq hr.units) (de_var 0) de_int) (pex_mW w_push T (hr.mono (by decide)) hx (de_var 1) (da_cons (de_var 2) da_nil))
      (pss_one (psx_ret (pex_if (dt_cmp (dop_eq hr.units) (de_var 0) de_int) (pex_mW w_move T (hr.mono (by decide)) hx (de_var 1) (da_cons (de_var 2) da_nil)) (pex_mW0 w_undo T (hr.mono (by decide)) hx (de_var 1))))))))))))))))))))
theorem sc__law_asked : FnScope ["kind", "one", "two", "three", "caught", "e"] ["kind", "one", "two", "three"] (defScope (top 63)) := ⟨rfl, rfl, rfl, by decide +kernel, rfl, by decide +kernel, by decide +kernel⟩
theorem ok__law_asked {P : Program} {w : World} {K : PySem.W.Frag} {mg : Str → Option Value} {base : Heap} {f : Addr} {fd : FuncData} {cls : Nat → Addr} (F : FunD K "_law_asked" "_law_asked" (defArgs (top 63)) (defBody (top 63)) (defScope (top 63)) [] [] f fd) (hm : mg "_law_asked" = some (.ref f)) (g : Free mg) {fE : Addr} {fdE : FuncData} (ek : ErrK K mg cls) (eE : FnOk P w K mg base (L2.CX P w) 1 fE fdE ["caught"] (spX cls errN)) (hE : mg "_law_error" = some (.ref fE)) (kE : PySem.W.keepIn K (.ref fE) = true) (bE : Binds K fdE ["caught"] []) (j__law_call : FnJ P w K mg base cls 12 "_law_call" 4 m__law_call) :
    FnP P w K mg base cls 13 "_law_asked" 4 m__law_asked :=
  fn_pureT (k := 12) F sc__law_asked hm rfl (F.bindsN fun _ _ _ _ _ _ us hl => match us, hl with | [_, _, _, _], _ => rfl) fun cdv A outer s H E _ G sb hr => by
    obtain ⟨al, al1, al2⟩ := ek.al
    have tk := takesE_of (P := P) (w := w) (K := K) (mg := mg) (base := base) (N := ["kind", "one", "two", "three", "caught", "e"]) (qual := "_law_asked") (scope := defScope (top 63)) (f := f) (cd := cdv) (A := A) (outer := outer) (s := s) (H := H) (E := E)
    have hx := passesE_of tk
    exact (dss_cons (O1 := []) (ds_set 4 sc__law_asked.nd de_non)
      (dss_try (i := 5) (j := 4) (al := al) (nm := errN) sb rfl rfl rfl sc__law_asked.nd rfl rfl (by decide) rfl rfl al1 rfl (fun c hc => (al2 c hc).2) rfl (fun pn xe E' tk' po => by
      have hx := passesE_of tk'
      exact (dss_one ((ds_exprJ j__law_call (hr.mono (by decide)) hx (da_cons (de_var 0) (da_cons (de_var 1) (da_cons (de_var 2) (da_cons (de_var 3) da_nil))))))))
      de_str eE (hr.mono (by decide)) hE kE bE rfl pe_non (nomark _) rfl rfl))
theorem ox__law_asked {P : Program} {w : World} {K : PySem.W.Frag} {mg : Str → Option Value} {base : Heap} {f : Addr} {fd : FuncData} {cls : Nat → Addr} (F : FunD K "_law_asked" "_law_asked" (defArgs (top 63)) (defBody (top 63)) (defScope (top 63)) [] [] f fd) (hm : mg "_law_asked" = some (.ref f)) (g : Free mg) {fE : Addr} {fdE : FuncData} (ek : ErrK K mg cls) (eE : FnOk P w K mg base (L2.CX P w) 1 fE fdE ["caught"] (spX cls errN)) (hE : mg "_law_error" = some (.ref fE)) (kE : PySem.W.keepIn K (.ref fE) = true) (bE : Binds K fdE ["caught"] []) {C : Addr} (x__law_call : FnX P w K mg base cls C 12 "_law_call" 4 x__law_call) :
    FnO P w K mg base cls (Ww cls C) 13 "_law_asked" 4 (fun _ => n__law_asked) :=
  ⟨_, _, _, fn_O (k := 12) (Fm := Ww cls C) (fb := fun _ => c__law_asked) F sc__law_asked rfl (fun _ _ => rfl) (fun cdv A outer s H E i G sb hr => by
    obtain ⟨al, al1, al2⟩ := ek.al
    exact (dss_cons (O1 := []) (ds_set 4 sc__law_asked.nd de_non)
      (dss_tryX (i := 5) (j := 4) (al := al) (nm := errN) rfl rfl rfl sc__law_asked.nd rfl rfl (by decide) rfl rfl al1 rfl (fun c hc => (al2 c hc).2) rfl (fun pn xe E' tk' po => by
      have hx := passesE_of tk'
      exact (pss_one (psx_callX x__law_call (hr.mono (by decide)) hx (da_cons (de_var 0) (da_cons (de_var 1) (da_cons (de_var 2) (da_cons (de_var 3) da_nil)))))))
      de_str eE (hr.mono (by decide)) hE kE bE rfl pe_non (nomark _) rfl rfl))), hm, F.kp, F.bindsN fun _ _ _ _ _ _ us hl => match us, hl with | [_, _, _, _], _ => rfl⟩
theorem sc__law_watch : FnScope ["shown", "bad"] [] (defScope (top 64)) := ⟨rfl, rfl, rfl, by decide +kernel, rfl, by decide +kernel, by decide +kernel⟩
theorem ok__law_watch {P : Program} {w : World} {K : PySem.W.Frag} {mg : Str → Option Value} {base : Heap} {f : Addr} {fd : FuncData} {cls : Nat → Addr} (F : FunD K "_law_watch" "_law_watch" (defArgs (top 64)) (defBody (top 64)) (defScope (top 64)) [] [] f fd) (hm : mg "_law_watch" = some (.ref f)) (g : Free mg) {C : Addr} (T : WaC K mg C) (i_W : FnI P w K mg base cls C 3) (l_W : FnL P w K mg base cls C 1) (w_push : FnM P w K mg base cls C 3 "push" 2 m_push) (w_move : FnM P w K mg base cls C 3 "move" 2 m_W_move) (w_counts : FnM P w K mg base cls C 1 "counts" 1 m_W_counts) (w_things : FnM P w K mg base cls C 1 "things" 1 m_things) (w_undo : FnM P w K mg base cls C 1 "undo" 1 m_undo) (o__law_asked : FnO P w K mg base cls (Ww cls C) 13 "_law_asked" 4 (fun _ => n__law_asked)) (f__law_asked : FnP P w K mg base cls 13 "_law_asked" 4 m__law_asked) :
    FnP P w K mg base cls 14 "_law_watch" 0 m__law_watch :=
  fn_pure0 (k := 13) F sc__law_watch hm rfl (F.bindsN fun _ _ _ _ _ _ us hl => match us, hl with | [], _ => rfl) fun cdv A outer s H E _ G hr => by
    have hp := passesO_of (CX := L2.CX P w) (P := P) (w := w) (K := K) (mg := mg) (base := base) (N := ["shown", "bad"]) (qual := "_law_watch") (scope := defScope (top 64)) (f := f) (cd := cdv) (A := A) (outer := outer) (s := s) (H := H) (E := E)
    exact (dss_cons (O1 := []) (ds_if (dt_cmp (dop_ne hr.units) (de_lc [("bad", 1)] sc__law_watch.nd (di_tup (de_tup (da_cons de_non (da_cons (de_op dop_sub de_int de_int) (da_cons de_int (da_cons de_bl (da_cons de_str (da_cons de_int (da_cons de_int da_nil))))))))) (by rfl) (fun _ _ _ _ _ => (dg_name 1 sc__law_watch.nd)) (fun _ _ _ _ _ => dts_nil) (fun _ _ _ _ _ => (de_call f__law_asked (hr.mono (by decide)) passL (da_cons de_int (da_cons (de_var 1) (da_cons de_int (da_cons de_int da_nil))))))) (de_op dop_add (de_op dop_mul (de_lst (da_cons de_str da_nil)) de_int) (de_op dop_mul (de_lst (da_cons de_str da_nil)) de_int)))
      (dss_one (ds_ret de_bl))
      dss_nil)
      (dss_nW 0 sc__law_watch.nd T i_W (hr.mono (by decide)) de_int (fun _ =>
      (dss_cons (O1 := []) (ds_for hp (di_list (de_lst (da_cons de_non (da_cons de_int (da_cons (de_tup (da_cons de_int da_nil)) (da_cons (de_lst (da_cons de_int (da_cons de_bl da_nil))) (da_cons (de_tup (da_cons de_int (da_cons de_bl da_nil))) (da_cons (de_tup (da_cons de_bl (da_cons de_bl da_nil))) (da_cons (de_tup (da_cons de_int (da_cons de_int da_nil))) (da_cons (de_tup (da_cons de_int (da_cons de_bl (da_cons de_int da_nil)))) da_nil)))))))))) (dg_name 1 sc__law_watch.nd) (fun _ =>
      (dss_one (ds_if (dt_cmp (dop_ne hr.units) (de_oWw o__law_asked (hr.mono (by decide)) (da_cons de_int (da_cons (de_var 0) (da_cons (de_var 1) (da_cons de_int da_nil))))) de_str)
      (dss_one (ds_ret de_bl))
      dss_nil))))
      (dss_cons (O1 := []) (ds_if (dt_bool (dw_or (dt_cmp (dop_ne hr.units) (de_lc [("bad", 1)] sc__law_watch.nd (di_tup (de_tup (da_cons de_non (da_cons (de_op dop_sub de_int de_int) (da_cons de_int (da_cons de_bl da_nil)))))) (by rfl) (fun _ _ _ _ _ => (dg_name 1 sc__law_watch.nd)) (fun _ _ _ _ _ => dts_nil) (fun _ _ _ _ _ => (de_oWw o__law_asked (hr.mono (by decide)) (da_cons de_int (da_cons (de_var 0) (da_cons (de_var 1) (da_cons de_int da_nil))))))) (de_op dop_mul (de_lst (da_cons de_str da_nil)) de_int)) (dw_or1 (dt_cmp (dop_ne hr.units) (de_oWw o__law_asked (hr.mono (by decide)) (da_cons de_int (da_cons (de_var 0) (da_cons de_int (da_cons de_int da_nil))))) de_str))))
      (dss_one (ds_ret de_bl))
      dss_nil)
      (dss_cons (O1 := []) (ds_if (dt_bool (dw_or (dt_cmp (dop_ne hr.units) (de_mW0 w_counts T (hr.mono (by decide)) (de_var 0)) (de_tup (da_cons de_int (da_cons de_int (da_cons de_int (da_cons de_int da_nil)))))) (dw_or (dt_cmp dop_isNot (de_mW w_push T (hr.mono (by decide)) (de_var 0) (da_cons (de_tup (da_cons de_int (da_cons de_bl da_nil))) da_nil)) de_bl) (dw_or1 (dt_cmp dop_isNot (de_mW w_push T (hr.mono (by decide)) (de_var 0) (da_cons (de_tup (da_cons de_int (da_cons de_bl da_nil))) da_nil)) de_bl)))))
      (dss_one (ds_ret de_bl))
      dss_nil)
      (dss_cons (O1 := []) (ds_if (dt_bool (dw_or (dt_cmp (dop_ne hr.units) (de_mW0 w_counts T (hr.mono (by decide)) (de_var 0)) (de_tup (da_cons de_int (da_cons de_int (da_cons de_int (da_cons de_int da_nil)))))) (dw_or (dt_cmp (dop_ne hr.units) (de_mW w_move T (hr.mono (by decide)) (de_var 0) (da_cons de_int da_nil)) de_int) (dw_or (dt_cmp (dop_ne hr.units) (de_mW0 w_counts T (hr.mono (by decide)) (de_var 0)) (de_tup (da_cons de_int (da_cons de_int (da_cons de_int (da_cons de_int da_nil)))))) (dw_or1 (dt_cmp (dop_ne hr.units) (de_mW w_move T (hr.mono (by decide)) (de_var 0) (da_cons de_int da_nil)) de_int))))))
      (dss_one (ds_ret de_bl))
      dss_nil)
      (dss_one (ds_ret (de_and (de_cmp (dop_eq hr.units) (de_mW0 w_undo T (hr.mono (by decide)) (de_var 0)) (de_tup (da_cons de_int (da_cons de_bl da_nil)))) (de_and (de_cmp (dop_eq hr.units) (de_mW0 w_counts T (hr.mono (by decide)) (de_var 0)) (de_tup (da_cons de_int (da_cons de_int (da_cons de_int (da_cons de_int da_nil)))))) (de_one (de_cmp (dop_eq hr.units) (de_lW l_W (hr.mono (by decide)) g.len_ (de_var 0)) de_int)))))))))))))
theorem sc__law_lists : FnScope ["bad", "told", "rank", "k"] [] (defScope (top 65)) := ⟨rfl, rfl, rfl, by decide +kernel, rfl, by decide +kernel, by decide +kernel⟩
theorem ok__law_lists {P : Program} {w : World} {K : PySem.W.Frag} {mg : Str → Option Value} {base : Heap} {f : Addr} {fd : FuncData} {cls : Nat → Addr} (F : FunD K "_law_lists" "_law_lists" (defArgs (top 65)) (defBody (top 65)) (defScope (top 65)) [] [] f fd) (hm : mg "_law_lists" = some (.ref f)) (g : Free mg) (f__law_asked : FnP P w K mg base cls 13 "_law_asked" 4 m__law_asked) (f_count_curves : FnP P w K mg base cls 3 "count_curves" 2 m_count_curves) :
    FnP P w K mg base cls 14 "_law_lists" 0 m__law_lists :=
  fn_pure (k := 13) F sc__law_lists hm rfl (F.bindsN fun _ _ _ _ _ _ us hl => match us, hl with | [], _ => rfl) fun cdv A outer s H E _ G hr => by
    have tk := takesE_of (P := P) (w := w) (K := K) (mg := mg) (base := base) (N := ["bad", "told", "rank", "k"]) (qual := "_law_lists") (scope := defScope (top 65)) (f := f) (cd := cdv) (A := A) (outer := outer) (s := s) (H := H) (E := E)
    have hx := passesE_of tk
    have hp := passesO_of (CX := L2.CX P w) (P := P) (w := w) (K := K) (mg := mg) (base := base) (N := ["bad", "told", "rank", "k"]) (qual := "_law_lists") (scope := defScope (top 65)) (f := f) (cd := cdv) (A := A) (outer := outer) (s := s) (H := H) (E := E)
    exact (dss_cons (O1 := []) (ds_for hp (di_list (de_lst (da_cons de_non (da_cons (de_op dop_sub de_int de_int) (da_cons de_int (da_cons de_bl (da_cons de_str da_nil))))))) (dg_name 0 sc__law_lists.nd) (fun _ =>
      (dss_one (ds_if (dt_bool (dw_or (dt_cmp (dop_ne hr.units) (de_lc [("k", 3)] sc__law_lists.nd (di_tup (de_tup (da_cons de_int (da_cons de_int (da_cons de_int da_nil))))) (by rfl) (fun _ _ _ _ _ => (dg_name 3 sc__law_lists.nd)) (fun _ _ _ _ _ => dts_nil) (fun _ _ _ _ _ => (de_call f__law_asked (hr.mono (by decide)) passL (da_cons (de_var 3) (da_cons (de_var 0) (da_cons de_int (da_cons de_int da_nil))))))) (de_op dop_mul (de_lst (da_cons de_str da_nil)) de_int)) (dw_or1 (dt_cmp (dop_ne hr.units) (de_lc [("k", 3)] sc__law_lists.nd (di_tup (de_tup (da_cons de_int (da_cons de_int (da_cons de_int da_nil))))) (by rfl) (fun _ _ _ _ _ => (dg_name 3 sc__law_lists.nd)) (fun _ _ _ _ _ => dts_nil) (fun _ _ _ _ _ => (de_call f__law_asked (hr.mono (by decide)) passL (da_cons (de_var 3) (da_cons de_int (da_cons (de_var 0) (da_cons de_int da_nil))))))) (de_op dop_mul (de_lst (da_cons de_str da_nil)) de_int)))))
      (dss_one (ds_ret de_bl))
      dss_nil))))
      (dss_cons (O1 := []) (ds_if (dt_bool (dw_or (dt_cmp (dop_ne hr.units) (de_lc [("k", 3)] sc__law_lists.nd (di_tup (de_tup (da_cons de_int (da_cons de_int (da_cons de_int da_nil))))) (by rfl) (fun _ _ _ _ _ => (dg_name 3 sc__law_lists.nd)) (fun _ _ _ _ _ => dts_nil) (fun _ _ _ _ _ => (de_call f__law_asked (hr.mono (by decide)) passL (da_cons (de_var 3) (da_cons de_int (da_cons de_int (da_cons de_int da_nil))))))) (de_op dop_mul (de_lst (da_cons de_str da_nil)) de_int)) (dw_or1 (dt_cmp (dop_ne hr.units) (de_lc [("k", 3)] sc__law_lists.nd (di_tup (de_tup (da_cons de_int (da_cons de_int (da_cons de_int da_nil))))) (by rfl) (fun _ _ _ _ _ => (dg_name 3 sc__law_lists.nd)) (fun _ _ _ _ _ => dts_nil) (fun _ _ _ _ _ => (de_call f__law_asked (hr.mono (by decide)) passL (da_cons (de_var 3) (da_cons de_int (da_cons de_int (da_cons de_int da_nil))))))) (de_lst (da_cons de_str (da_cons de_str (da_cons de_str da_nil))))))))
      (dss_one (ds_ret de_bl))
      dss_nil)
      (dss_cons (O1 := []) (ds_if (dt_bool (dw_or (dt_cmp (dop_ne hr.units) (de_lc [("k", 3)] sc__law_lists.nd (di_tup (de_tup (da_cons de_int (da_cons de_int (da_cons de_int da_nil))))) (by rfl) (fun _ _ _ _ _ => (dg_name 3 sc__law_lists.nd)) (fun _ _ _ _ _ => dts_nil) (fun _ _ _ _ _ => (de_call f__law_asked (hr.mono (by decide)) passL (da_cons (de_var 3) (da_cons de_int (da_cons de_int (da_cons de_int da_nil))))))) (de_lst (da_cons de_str (da_cons de_str (da_cons de_str da_nil))))) (dw_or1 (dt_cmp (dop_ne hr.units) (de_lc [("k", 3)] sc__law_lists.nd (di_tup (de_tup (da_cons de_int (da_cons de_int (da_cons de_int da_nil))))) (by rfl) (fun _ _ _ _ _ => (dg_name 3 sc__law_lists.nd)) (fun _ _ _ _ _ => dts_nil) (fun _ _ _ _ _ => (de_call f__law_asked (hr.mono (by decide)) passL (da_cons (de_var 3) (da_cons de_int (da_cons de_int (da_cons de_int da_nil))))))) (de_op dop_mul (de_lst (da_cons de_str da_nil)) de_int)))))
      (dss_one (ds_ret de_bl))
      dss_nil)
      (dss_cons (O1 := []) (ds_setLc 1 [("rank", 2)] sc__law_lists.nd (sw_true rfl rfl rfl (by decide +kernel)) (di_tup (de_tup (da_cons de_non (da_cons de_int (da_cons (de_op dop_sub de_int de_int) (da_cons de_bl (da_cons de_str (da_cons de_int (da_cons de_int da_nil))))))))) (by rfl) (fun _ _ _ _ _ => (dg_name 2 sc__law_lists.nd)) (fun _ _ _ _ _ => dts_nil) (fun _ _ _ _ _ => (de_call f__law_asked (hr.mono (by decide)) passL (da_cons de_int (da_cons de_int (da_cons de_int (da_cons (de_var 2) da_nil)))))))
      (dss_one (ds_ret (de_and (de_cmp (dop_eq hr.units) (de_var 1) (de_op dop_add (de_op dop_mul (de_lst (da_cons de_str da_nil)) de_int) (de_op dop_mul (de_lst (da_cons de_str da_nil)) de_int))) (de_one (de_cmp dop_gt (de_call f_count_curves (hr.mono (by decide)) hx (da_cons de_int (da_cons de_int da_nil))) de_int)))))))))

theorem sc__law_draw : FnScope ["draws", "limit", "numbers", "at", "cell", "mixed"] ["draws", "limit"] (defScope (top 60)) := ⟨rfl, rfl, rfl, by decide +kernel, rfl, by decide +kernel, by decide +kernel⟩
theorem ok__law_draw {P : Program} {w : World} {K : PySem.W.Frag} {mg : Str → Option Value} {base : Heap} {f : Addr} {fd : FuncData} {cls : Nat → Addr} (F : FunD K "_law_draw" "_law_draw" (defArgs (top 60)) (defBody (top 60)) (defScope (top 60)) [] [] f fd) (hm : mg "_law_draw" = some (.ref f)) (g : Free mg) :
    FnD P w K mg base cls 1 "_law_draw" 2 m__law_draw := by
  refine ⟨f, fd, ["draws", "limit"], F.ok sc__law_draw (fun vs H Q E h => ?_) (fun cdv A outer s H vs Q E hr h => ?_), hm, F.kp, F.bindsN fun _ _ _ _ _ _ us hl => match us, hl with | [_, _], _ => rfl⟩
  · obtain ⟨da, db, G, ds, s, _, r, hl, _⟩ := h
    rw [r.len, hl]; rfl
  · obtain ⟨da, db, G, ds, st, S, r, hl, p⟩ := h
    unfold m__law_draw at p
    split at p
    · rename_i x lim
      split at p
      · rename_i hc
        obtain ⟨h0, h30, hn⟩ := hc
        cases r with
        | cons r1 r2 =>
          cases r2 with
          | cons r2 r3 =>
            cases r3
            obtain ⟨n, rfl⟩ := pd_tok r1
            obtain rfl := (r2.dg (isD_tok rfl)).of_int
            obtain ⟨ns, c⟩ := st
            obtain ⟨nd, hda, hdb⟩ := S.rep
            simp only at hda hdb hn
            have nd' : db ≠ da := Ne.symm nd
            refine ⟨_, pss_cons (ps_set (i := 2) sc__law_draw.nd rfl (.inl rfl) (pe_ix ix_list (pv 0) pe_int (fun _ _ => rfl)))
              (pss_cons (ps_asg (pe_op op_add (pe_ix ix_list (pv 0) pe_int (fun _ _ => rfl)) pe_int) (pg_sub (pv 0) pe_int set_list))
              (pss_cons (ps_set (i := 3) sc__law_draw.nd rfl (.inl rfl) (pe_op op_mod (pe_ix ix_list (pv 0) pe_int (fun _ _ => rfl)) (pe_callB call_len_seq (by rfl) g.len_ PySem.boot_len (pa_cons (pv 2) pa_nil))))
              (pss_cons (ps_set (i := 4) sc__law_draw.nd rfl (.inl rfl) (pe_ix ix_list (pv 2) (pv 3) (fun _ _ => rfl)))
              (pss_cons (ps_if (pt_cmpR op_ge (pv 4) pe_int (nomark _)) (pss_cons (ps_asg (pe_op op_fdiv (pv 4) (pv 1)) (pg_sub (pv 2) (pv 3) set_list)) (pss_one (ps_ret (pe_op op_mod (pv 4) (pv 1))))) pss_nil)
              (pss_cons (ps_set (i := 5) sc__law_draw.nd rfl (.inl rfl) (pe_op op_mod (pe_op op_add (pv 4) (pe_op op_mul pe_int (pe_ix ix_list (pv 0) pe_int (fun _ _ => rfl)))) pe_int))
              (pss_cons (ps_set (i := 5) sc__law_draw.nd rfl (.inl rfl) (pe_op op_mod (pe_op op_pow (pv 5) pe_int) pe_int))
              (pss_one (ps_ret (pe_op op_mod (pe_op op_fdiv (pe_op op_mod (pe_op op_add (pe_op op_mul (pe_op op_fdiv (pv 5) pe_int) pe_int) (pv 5)) pe_int) pe_int) (pv 1)))))))))), ?_⟩
            have hda1 : (upd H da (.lst [.ref db, .int (c + 1)])) da = some (.lst [.ref db, .int (c + 1)]) := upd_same
            have hdb1 : (upd H da (.lst [.ref db, .int (c + 1)])) db = some (.lst (ns.map V.int)) := by rw [upd_ne nd']; exact hdb
            have hix : (ns.map V.int).length = ns.length := List.length_map ..
            have hmp : 0 < (ns.map V.int).length := by rw [hix]; exact hn
            have hpos : (0 : Int) < ((ns.map V.int).length : Int) := by omega
            generalize hi : (c + 1) % ((ns.map V.int).length : Int) = ix at *
            have hat : ixN (ns.map V.int).length ix = some ix.toNat := by rw [← hi]; exact ixN_emod hmp
            have hlt : ix.toNat < ns.length := by
              have h1 : 0 ≤ ix := by rw [← hi]; exact Int.emod_nonneg _ (by omega)
              have h2 : ix < ((ns.map V.int).length : Int) := by rw [← hi]; exact Int.emod_lt_of_pos _ hpos
              omega
            have hgv : ns[ix.toNat]? = some (ns.getD ix.toNat 0) := by rw [List.getD_eq_getElem?_getD, List.getElem?_eq_getElem hlt]; rfl
            generalize hcell : ns.getD ix.toNat 0 = cell at *
            have hget : L2.atI (ns.map V.int) ix = some (.int cell) := by
              unfold L2.atI
              rw [hat]
              show (ns.map V.int)[ix.toNat]? = _
              rw [List.getElem?_map, hgv]
              rfl
            have hdm : drawM lim (ns, c) = if 1000000000000000000 ≤ cell then (cell % lim, (ns.set ix.toNat (cell / lim), c + 1)) else (hashD cell (c + 1) lim, (ns, c + 1)) := by
              unfold drawM
              dsimp only
              rw [← hix, hi, hcell]
            rw [hdm] at p
            -- numbers = draws[0]
            refine ⟨.ref da, rfl, da, _, 0, .ref db, rfl, rfl, SqL.of hda, rfl, ?_⟩
            -- draws[1] = draws[1] + 1
            refine ⟨.ref da, rfl, da, _, 1, .int c, rfl, rfl, SqL.of hda, rfl, c, 1, rfl, rfl, .ref da, rfl, da, _, 1, 1, rfl, rfl, hda, rfl, ?_⟩
            -- at
            refine ⟨.ref da, rfl, da, _, 1, .int (c + 1), rfl, rfl, SqL.of hda1, rfl, .ref db, rfl, db, _, rfl, .inl (SqL.of hdb1), c + 1, _, rfl, rfl, hpos, ?_⟩
            simp only [hi]
            -- cell
            refine ⟨.ref db, rfl, .int ix, rfl, db, _, ix, .int cell, rfl, rfl, SqL.of hdb1, hget, ?_⟩
            refine ⟨.int cell, rfl, cell, _, rfl, rfl, _, rfl, ite2 (fun e => ?_) (fun e => ?_)⟩
            · rw [if_pos (of_decide_eq_true e)] at p
              refine ⟨.int cell, rfl, .int lim, rfl, cell, lim, rfl, rfl, ⟨h0, h30⟩, .ref db, rfl, .int ix, rfl, db, _, ix, ix.toNat, rfl, rfl, hdb1, hat, ?_⟩
              refine ⟨.int cell, rfl, .int lim, rfl, cell, lim, rfl, rfl, h0, ?_⟩
              refine draw_post S (fun a n1 n2 => ?_) ?_ ?_ p (.int _)
              · rw [upd_ne n2, upd_ne n1]
              · rw [upd_ne nd]; exact hda1
              · rw [upd_same, List.map_set]
            · rw [if_neg fun z => e (decide_eq_true z)] at p
              have k0 : ∀ x : Int, 0 ≤ x % 4294967291 ∧ x % 4294967291 < 4294967291 := fun x => ⟨Int.emod_nonneg _ (by decide), Int.emod_lt_of_pos _ (by decide)⟩
              refine ⟨.int cell, rfl, .ref da, rfl, da, _, 1, .int (c + 1), rfl, rfl, SqL.of hda1, rfl, 104729, c + 1, rfl, rfl, .inl ⟨by decide, by decide⟩, cell, _, rfl, rfl, _, _, rfl, rfl, (show (0 : Int) < 4294967291 by decide), ?_⟩
              refine ⟨_, rfl, _, 5, rfl, rfl, ⟨by decide, by decide, ?_⟩, _, _, rfl, rfl, (show (0 : Int) < 4294967279 by decide), ?_⟩
              · have z := k0 (cell + 104729 * (c + 1))
                omega
              · refine ⟨_, rfl, _, _, rfl, rfl, ⟨by decide, by decide⟩, _, _, rfl, rfl, .inr ⟨by decide, by decide⟩, _, rfl, _, _, rfl, rfl, _, _, rfl, rfl, (show (0 : Int) < 4294967231 by decide), _, _, rfl, rfl, ⟨by decide, by decide⟩, .int lim, rfl, _, lim, rfl, rfl, h0, ?_⟩
                refine draw_post S (fun a n1 n2 => ?_) ?_ ?_ p (.int _)
                · exact upd_ne n1
                · exact hda1
                · exact hdb1
      · exact p.elim
    · exact p.elim
theorem sc__law_start : FnScope ["script"] ["script"] (defScope (top 59)) := ⟨rfl, rfl, rfl, by decide +kernel, rfl, by decide +kernel, by decide +kernel⟩
theorem ok__law_start {P : Program} {w : World} {K : PySem.W.Frag} {mg : Str → Option Value} {base : Heap} {f : Addr} {fd : FuncData} (F : FunD K "_law_start" "_law_start" (defArgs (top 59)) (defBody (top 59)) (defScope (top 59)) [] [] f fd) (g : Free mg) :
    FnOk P w K mg base (L2.CX P w) 1 f fd ["script"] (spStart K) := by
  refine F.ok sc__law_start (fun vs H Q E h => ?_) (fun cdv A outer s H vs Q E hr h => ?_)
  · obtain ⟨a, ns, rfl, _⟩ := h
    rfl
  · obtain ⟨a, ns, rfl, hS, q⟩ := h
    refine ⟨_, pss_one (ps_ret (pe_lst (pa_cons (pe_ifExp (pt_cmpR (op_neD hr.units) (pv 0) (pe_lst pa_nil) (nomark _)) (pe_callTy call_list_of (by rfl) g.list_ (by decide +kernel) (pa_cons (pv 0) pa_nil)) (pe_lst (pa_cons pe_int pa_nil))) (pa_cons pe_int pa_nil)))), ?_⟩
    refine ⟨.ref a, rfl, Nat.zero_le _, fun e ne => ?_⟩
    have s1 : Same H (upd H e (.lst [])) := fun b o hb => sub_upd ne b o hb
    have all : ∀ ms : List Int, DpAll K (upd H e (.lst [])) (ms.map V.int) (ms.map PyData.int) := fun ms => by
      induction ms with
      | nil => exact .nil
      | cons m ms ih => exact .cons (.int m) ih
    have shp : SeqAt.shaped (.list (ns.map PyData.int)) = true := shaped_ints ns
    refine ⟨.list (ns.map PyData.int), .list [], .lst (s1.seq hS) (all ns), .lst (SqL.of upd_same) .nil, shp, rfl, _, rfl, ?_⟩
    have fin : ∀ (db : Addr) (H1 : Hp), Same H H1 → H db = none → H1 db = some (.lst ((startN ns).map V.int)) → tCons (tC (.int 0)) tNil (L2.start ["script"] [V.ref a]) H1 (fun xs H2 => (V.ref db :: xs).length ≤ sizeLine ∧ ∀ p, H2 p = none → Q (.ref p) (upd H2 p (.lst (V.ref db :: xs)))) := fun db H1 sm nb hb => by
      refine ⟨(show 2 ≤ sizeLine by decide), fun da hda => ?_⟩
      have nd : da ≠ db := fun z => by rw [z, hb] at hda; cases hda
      refine q da db _ (fun b o h => ?_) (sm.free hda) nb nd upd_same ?_
      · have z : b ≠ da := fun z => by rw [z, sm.free hda] at h; cases h
        rw [upd_ne z]; exact sm b o h
      · rw [upd_ne (Ne.symm nd)]; exact hb
    cases ns with
    | nil =>
      refine ⟨by decide, fun db nb => ?_⟩
      exact fin db _ (fun b o h => by
        have h1 := s1 b o h
        rw [upd_ne (ne_of_none h1 nb)]; exact h1) (s1.free nb) upd_same
    | cons n ms =>
      refine ⟨.ref a, rfl, a, _, rfl, .inl (s1.seq hS), fun db nb => ?_⟩
      exact fin db _ (fun b o h => by
        have h1 := s1 b o h
        rw [upd_ne (ne_of_none h1 nb)]; exact h1) (s1.free nb) upd_same

theorem sc_law : FnScope ["script", "draws", "good", "odd", "bad", "things", "rise", "fine", "k"] ["script"] (defScope (top 66)) := ⟨rfl, rfl, rfl, by decide +kernel, rfl, by decide +kernel, by decide +kernel⟩
def law0 : Stmt := (defBody (top 66)).headD (.Pass ⟨0, 0, 0, 0⟩)
def lawR : List Stmt := (defBody (top 66)).tail
theorem ok_law {P : Program} {w : World} {K : PySem.W.Frag} {mg : Str → Option Value} {base : Heap} {f fs : Addr} {fd fds : FuncData} {cls : Nat → Addr} (F : FunD K "law" "law" (defArgs (top 66)) (defBody (top 66)) (defScope (top 66)) [] [] f fd) (FS : FunD K "_law_start" "_law_start" (defArgs (top 59)) (defBody (top 59)) (defScope (top 59)) [] [] fs fds) (hs : mg "_law_start" = some (.ref fs)) (g : Free mg) (f__law_lists : FnP P w K mg base cls 14 "_law_lists" 0 m__law_lists) (f__law_watch : FnP P w K mg base cls 14 "_law_watch" 0 m__law_watch) (f_is_points : FnP P w K mg base cls 2 "is_points" 1 m_is_points) (f__law_asked : FnP P w K mg base cls 13 "_law_asked" 4 m__law_asked) (d__law_draw : FnD P w K mg base cls 1 "_law_draw" 2 m__law_draw)
    (hlaw : ∀ ns : List Int, 0 < ns.length → ∃ s', b_law (none :: some (tokD 0) :: List.replicate 7 none) (ns, 0) = .ok (.rt (.bool true), s')) : FnOk P w K mg base (L2.CX P w) 15 f fd ["script"] (spLaw K) := by
  refine fn_law (cls := cls) (k := 14) (s0 := law0) (rest := lawR) F sc_law rfl (by decide) (fun cdv A outer s H E hr => ?_) (fun cdv A outer s H E da db G H0 hr => ?_) hlaw
  · exact ps_set (i := 1) sc_law.nd rfl (by first | exact Or.inl rfl | exact Or.inr rfl) (pe_call (ok__law_start FS g) (hr.mono (by decide)) (by rfl) hs FS.kp (FS.bindsN fun _ _ _ _ _ _ us hl => match us, hl with | [_], _ => rfl) .nil passL (pa_cons (pv 0) pa_nil))
  · have hp := passesO_of (CX := L2.CX P w) (P := P) (w := w) (K := K) (mg := mg) (base := base) (N := ["script", "draws", "good", "odd", "bad", "things", "rise", "fine", "k"]) (qual := "law") (scope := defScope (top 66)) (f := f) (cd := cdv) (A := A) (outer := outer) (s := s) (H := H) (E := E)
    exact (dss_cons (O1 := []) (ds_set 2 sc_law.nd (de_lst (da_cons (de_tup (da_cons de_int (da_cons de_int da_nil))) (da_cons (de_tup (da_cons de_int (da_cons de_int da_nil))) (da_cons (de_tup (da_cons de_int (da_cons de_int da_nil))) da_nil)))))
      (dss_cons (O1 := []) (ds_set 3 sc_law.nd (de_lst (da_cons de_non (da_cons de_int (da_cons (de_tup da_nil) (da_cons (de_lst da_nil) (da_cons (de_lst (da_cons (de_tup (da_cons de_int (da_cons de_int da_nil))) da_nil)) (da_cons (de_lst (da_cons (de_tup (da_cons de_int (da_cons de_int da_nil))) (da_cons (de_tup (da_cons de_int (da_cons de_int da_nil))) da_nil))) (da_cons (de_tup (da_cons (de_tup (da_cons de_int (da_cons de_int da_nil))) (da_cons (de_tup (da_cons de_int (da_cons de_int da_nil))) da_nil))) (da_cons (de_lst (da_cons (de_tup (da_cons de_int (da_cons de_int da_nil))) (da_cons (de_tup (da_cons de_int (da_cons de_int da_nil))) da_nil))) (da_cons (de_lst (da_cons (de_tup (da_cons de_int (da_cons de_int da_nil))) (da_cons (de_tup (da_cons de_int (da_cons de_int da_nil))) (da_cons (de_tup (da_cons de_int (da_cons de_int da_nil))) da_nil)))) (da_cons (de_lst (da_cons (de_tup (da_cons de_int (da_cons de_int da_nil))) (da_cons (de_tup (da_cons de_int (da_cons de_int da_nil))) (da_cons (de_tup (da_cons de_int (da_cons de_int da_nil))) da_nil)))) (da_cons (de_lst (da_cons (de_tup (da_cons de_int (da_cons de_int da_nil))) (da_cons (de_lst (da_cons de_int (da_cons de_int da_nil))) da_nil))) (da_cons (de_lst (da_cons (de_tup (da_cons de_int (da_cons de_int da_nil))) (da_cons (de_tup (da_cons de_int da_nil)) da_nil))) (da_cons (de_lst (da_cons (de_tup (da_cons de_int (da_cons de_int da_nil))) (da_cons (de_tup (da_cons de_int (da_cons de_int da_nil))) da_nil))) (da_cons (de_lst (da_cons (de_tup (da_cons de_int (da_cons de_int da_nil))) (da_cons (de_tup (da_cons de_int (da_cons de_int da_nil))) da_nil))) (da_cons (de_lst (da_cons (de_tup (da_cons de_int (da_cons de_int da_nil))) (da_cons (de_tup (da_cons de_bl (da_cons de_int da_nil))) da_nil))) (da_cons (de_lst (da_cons (de_tup (da_cons de_int (da_cons de_int da_nil))) (da_cons (de_tup (da_cons de_str (da_cons de_int da_nil))) da_nil))) (da_cons (de_lst (da_cons (de_tup (da_cons de_int (da_cons de_int da_nil))) (da_cons de_non da_nil))) da_nil)))))))))))))))))))
      (dss_cons (O1 := []) (ds_for hp (di_list (de_var 3)) (dg_name 4 sc_law.nd) (fun _ =>
      (dss_cons (O1 := []) (ds_if (dt_bool (dw_or (dt_cmp dop_isNot (de_call f_is_points (hr.mono (by decide)) passL (da_cons (de_var 4) da_nil)) de_bl) (dw_or1 (dt_cmp (dop_ne hr.units) (de_lc [("k", 8)] sc_law.nd (di_range1 g.range_ (da_cons de_int da_nil)) (by rfl) (fun _ _ _ _ _ => (dg_name 8 sc_law.nd)) (fun _ _ _ _ _ => dts_nil) (fun _ _ _ _ _ => (de_call f__law_asked (hr.mono (by decide)) passL (da_cons (de_var 8) (da_cons (de_var 4) (da_cons de_non (da_cons de_int da_nil))))))) (de_op dop_mul (de_lst (da_cons de_str da_nil)) de_int)))))
      (dss_one (ds_ret de_bl))
      dss_nil)
      (dss_one (ds_if (dt_cmp (dop_ne hr.units) (de_lc [("k", 8)] sc_law.nd (di_tup (de_tup (da_cons de_int (da_cons de_int (da_cons de_int da_nil))))) (by rfl) (fun _ _ _ _ _ => (dg_name 8 sc_law.nd)) (fun _ _ _ _ _ => dts_nil) (fun _ _ _ _ _ => (de_call f__law_asked (hr.mono (by decide)) passL (da_cons (de_var 8) (da_cons (de_var 2) (da_cons (de_var 4) (da_cons de_int da_nil))))))) (de_op dop_mul (de_lst (da_cons de_str da_nil)) de_int))
      (dss_one (ds_ret de_bl))
      dss_nil)))))
      (dss_cons (O1 := []) (ds_if (dt_bool (dw_or (dt_cmp dop_isNot (de_call f_is_points (hr.mono (by decide)) passL (da_cons (de_var 2) da_nil)) de_bl) (dw_or (dt_cmp dop_isNot (de_call f_is_points (hr.mono (by decide)) passL (da_cons (de_lst (da_cons (de_tup (da_cons de_int (da_cons de_int da_nil))) (da_cons (de_tup (da_cons de_int (da_cons de_int da_nil))) da_nil))) da_nil)) de_bl) (dw_or1 (dt_cmp (dop_ne hr.units) (de_lc [("k", 8)] sc_law.nd (di_tup (de_tup (da_cons de_int (da_cons de_int (da_cons de_int da_nil))))) (by rfl) (fun _ _ _ _ _ => (dg_name 8 sc_law.nd)) (fun _ _ _ _ _ => dts_nil) (fun _ _ _ _ _ => (de_call f__law_asked (hr.mono (by decide)) passL (da_cons (de_var 8) (da_cons (de_var 2) (da_cons (de_lst (da_cons (de_tup (da_cons de_int (da_cons de_int da_nil))) (da_cons (de_tup (da_cons de_int (da_cons de_int da_nil))) da_nil))) (da_cons de_int da_nil))))))) (de_op dop_mul (de_lst (da_cons de_str da_nil)) de_int))))))
      (dss_one (ds_ret de_bl))
      dss_nil)
      (dss_cons (O1 := []) (ds_for hp (di_list (de_lst (da_cons de_non (da_cons de_int (da_cons (de_tup (da_cons de_int da_nil)) (da_cons (de_lst (da_cons de_int (da_cons de_int da_nil))) (da_cons (de_tup (da_cons de_int (da_cons de_int da_nil))) (da_cons (de_tup (da_cons de_int (da_cons de_int da_nil))) (da_cons (de_tup (da_cons (de_op dop_sub de_int de_int) (da_cons de_int da_nil))) (da_cons (de_tup (da_cons de_int (da_cons de_int da_nil))) (da_cons (de_tup (da_cons de_int (da_cons de_int da_nil))) (da_cons (de_tup (da_cons de_bl (da_cons de_int da_nil))) da_nil)))))))))))) (dg_name 4 sc_law.nd) (fun _ =>
      (dss_one (ds_if (dt_bool (dw_or (dt_cmp (dop_ne hr.units) (de_call f__law_asked (hr.mono (by decide)) passL (da_cons de_int (da_cons (de_var 2) (da_cons (de_var 4) (da_cons de_int da_nil))))) de_str) (dw_or1 (dt_cmp (dop_ne hr.units) (de_call f__law_asked (hr.mono (by decide)) passL (da_cons de_int (da_cons (de_var 4) (da_cons de_int (da_cons de_int da_nil))))) de_str))))
      (dss_one (ds_ret de_bl))
      dss_nil))))
      (dss_cons (O1 := []) (ds_if (dt_cmp (dop_ne hr.units) (de_lc [("fine", 7)] sc_law.nd (di_tup (de_tup (da_cons (de_tup (da_cons de_int (da_cons de_int da_nil))) (da_cons (de_tup (da_cons de_int (da_cons de_int da_nil))) (da_cons (de_tup (da_cons de_int (da_cons de_int da_nil))) da_nil))))) (by rfl) (fun _ _ _ _ _ => (dg_name 7 sc_law.nd)) (fun _ _ _ _ _ => dts_nil) (fun _ _ _ _ _ => (de_call f__law_asked (hr.mono (by decide)) passL (da_cons de_int (da_cons (de_var 2) (da_cons (de_var 7) (da_cons de_int da_nil))))))) (de_op dop_mul (de_lst (da_cons de_str da_nil)) de_int))
      (dss_one (ds_ret de_bl))
      dss_nil)
      (dss_cons (O1 := []) (ds_if (dt_cmp (dop_ne hr.units) (de_lc [("fine", 7)] sc_law.nd (di_tup (de_tup (da_cons (de_tup (da_cons de_int (da_cons de_int da_nil))) (da_cons (de_tup (da_cons de_int (da_cons de_int da_nil))) (da_cons (de_tup (da_cons de_int (da_cons de_int da_nil))) da_nil))))) (by rfl) (fun _ _ _ _ _ => (dg_name 7 sc_law.nd)) (fun _ _ _ _ _ => dts_nil) (fun _ _ _ _ _ => (de_call f__law_asked (hr.mono (by decide)) passL (da_cons de_int (da_cons (de_var 7) (da_cons de_int (da_cons de_int da_nil))))))) (de_op dop_mul (de_lst (da_cons de_str da_nil)) de_int))
      (dss_one (ds_ret de_bl))
      dss_nil)
      (dss_cons (O1 := []) (ds_set 5 sc_law.nd (de_lst (da_cons (de_tup (da_cons de_int (da_cons de_bl da_nil))) (da_cons (de_tup (da_cons (de_callD d__law_draw (hr.mono (by decide)) (da_cons (de_var 1) (da_cons de_int da_nil))) (da_cons de_bl da_nil))) da_nil))))
      (dss_cons (O1 := []) (ds_set 6 sc_law.nd (de_tupRg g.tuple_ g.range_))
      (dss_cons (O1 := []) (ds_for hp (di_list (de_lst (da_cons de_non (da_cons de_int (da_cons (de_callTy dc_list g.list_ (da_cons (de_var 6) da_nil)) (da_cons (de_slice (de_var 6) do_none (do_some de_int)) (da_cons (de_op dop_add (de_var 6) (de_tup (da_cons de_int da_nil))) (da_cons (de_revT (de_var 6)) (da_cons (de_op dop_add (de_slice (de_var 6) do_none (do_some de_int)) (de_tup (da_cons de_int (da_cons de_int da_nil)))) (da_cons (de_op dop_add (de_slice (de_var 6) do_none (do_some de_int)) (de_tup (da_cons de_int da_nil))) (da_cons (de_op dop_add (de_tup (da_cons de_bl da_nil)) (de_slice (de_var 6) (do_some de_int) do_none)) (da_cons (de_op dop_add (de_tup (da_cons (de_op dop_sub de_int de_int) da_nil)) (de_slice (de_var 6) (do_some de_int) do_none)) da_nil)))))))))))) (dg_name 4 sc_law.nd) (fun _ =>
      (dss_one (ds_if (dt_cmp (dop_ne hr.units) (de_call f__law_asked (hr.mono (by decide)) passL (da_cons de_int (da_cons (de_var 5) (da_cons (de_var 4) (da_cons de_int da_nil))))) de_str)
      (dss_one (ds_ret de_bl))
      dss_nil))))
      (dss_cons (O1 := []) (ds_if (dt_bool (dw_or (dt_cmp (dop_ne hr.units) (de_call f__law_asked (hr.mono (by decide)) passL (da_cons de_int (da_cons de_non (da_cons de_non (da_cons de_int da_nil))))) de_str) (dw_or (dt_cmp (dop_ne hr.units) (de_call f__law_asked (hr.mono (by decide)) passL (da_cons de_int (da_cons (de_var 5) (da_cons de_non (da_cons de_int da_nil))))) de_str) (dw_or1 (dt_cmp (dop_ne hr.units) (de_call f__law_asked (hr.mono (by decide)) passL (da_cons de_int (da_cons (de_var 5) (da_cons (de_op dop_mul (de_var 5) de_int) (da_cons de_int da_nil))))) de_str)))))
      (dss_one (ds_ret de_bl))
      dss_nil)
      (dss_one (ds_ret (de_and (de_cmp (dop_eq hr.units) (de_call f__law_asked (hr.mono (by decide)) passL (da_cons de_int (da_cons (de_var 5) (da_cons (de_op dop_mul (de_var 5) de_int) (da_cons de_int da_nil))))) de_str) (de_and (de_call0 f__law_lists (hr.mono (by decide)) passL) (de_one (de_call0 f__law_watch (hr.mono (by decide)) passL)))))))))))))))))

theorem factsK {P : Program} {w : World} {K : PySem.W.Frag} {h : Heap} {mg : Str → Option Value} {f : Addr} (X : K.In h) (G : h.Ns mainGlobals mg) (hfa : mg ("law" : Str) = some (.ref f)) (c : He.SaysD faL fnL K) (cb : errB K = true)
    (hlaw : ∀ ns : List Int, 0 < ns.length → ∃ s', b_law (none :: some (tokD 0) :: List.replicate 7 none) (ns, 0) = .ok (.rt (.bool true), s')) :
    ∃ fd : FuncData, (∀ (s : Shared) (v : Value), BindsTo s fd ⟨[v], []⟩ [("script", v)]) ∧ ∀ base : Heap, K.In base → base.Ns mainGlobals mg → FnOk P w K mg base (L2.CX P w) 15 f fd ["script"] (spLaw K) := by
  obtain ⟨fd_is_int, F_is_int⟩ := c.def_ 0 (d := ⟨("is_int", none), "is_int", "is_int", defArgs (top 9), defBody (top 9), defScope (top 9), [], []⟩) rfl
  have g_is_int := He.glo_ok X G (c.fact 0 (f := .glo "is_int") rfl)
  obtain ⟨fd_is_thing, F_is_thing⟩ := c.def_ 1 (d := ⟨("is_thing", none), "is_thing", "is_thing", defArgs (top 10), defBody (top 10), defScope (top 10), [], []⟩) rfl
  have g_is_thing := He.glo_ok X G (c.fact 1 (f := .glo "is_thing") rfl)
  obtain ⟨fd_is_things, F_is_things⟩ := c.def_ 2 (d := ⟨("is_things", none), "is_things", "is_things", defArgs (top 11), defBody (top 11), defScope (top 11), [], []⟩) rfl
  have g_is_things := He.glo_ok X G (c.fact 2 (f := .glo "is_things") rfl)
  obtain ⟨fd_check_things, F_check_things⟩ := c.def_ 3 (d := ⟨("check_things", none), "check_things", "check_things", defArgs (top 12), defBody (top 12), defScope (top 12), [], []⟩) rfl
  have g_check_things := He.glo_ok X G (c.fact 3 (f := .glo "check_things") rfl)
  obtain ⟨fd_check_threshold, F_check_threshold⟩ := c.def_ 4 (d := ⟨("check_threshold", none), "check_threshold", "check_threshold", defArgs (top 13), defBody (top 13), defScope (top 13), [], []⟩) rfl
  have g_check_threshold := He.glo_ok X G (c.fact 4 (f := .glo "check_threshold") rfl)
  obtain ⟨fd_is_points, F_is_points⟩ := c.def_ 5 (d := ⟨("is_points", none), "is_points", "is_points", defArgs (top 14), defBody (top 14), defScope (top 14), [], []⟩) rfl
  have g_is_points := He.glo_ok X G (c.fact 5 (f := .glo "is_points") rfl)
  obtain ⟨fd_check_points, F_check_points⟩ := c.def_ 6 (d := ⟨("check_points", none), "check_points", "check_points", defArgs (top 15), defBody (top 15), defScope (top 15), [], []⟩) rfl
  have g_check_points := He.glo_ok X G (c.fact 6 (f := .glo "check_points") rfl)
  obtain ⟨fd_common, F_common⟩ := c.def_ 7 (d := ⟨("common", none), "common", "common", defArgs (top 17), defBody (top 17), defScope (top 17), [], []⟩) rfl
  have g_common := He.glo_ok X G (c.fact 7 (f := .glo "common") rfl)
  obtain ⟨fd_lowest, F_lowest⟩ := c.def_ 8 (d := ⟨("lowest", none), "lowest", "lowest", defArgs (top 18), defBody (top 18), defScope (top 18), [], []⟩) rfl
  have g_lowest := He.glo_ok X G (c.fact 8 (f := .glo "lowest") rfl)
  obtain ⟨fd_plus, F_plus⟩ := c.def_ 9 (d := ⟨("plus", none), "plus", "plus", defArgs (top 19), defBody (top 19), defScope (top 19), [], []⟩) rfl
  have g_plus := He.glo_ok X G (c.fact 9 (f := .glo "plus") rfl)
  obtain ⟨fd_product, F_product⟩ := c.def_ 10 (d := ⟨("product", none), "product", "product", defArgs (top 20), defBody (top 20), defScope (top 20), [], []⟩) rfl
  have g_product := He.glo_ok X G (c.fact 10 (f := .glo "product") rfl)
  obtain ⟨fd_less, F_less⟩ := c.def_ 11 (d := ⟨("less", none), "less", "less", defArgs (top 21), defBody (top 21), defScope (top 21), [], []⟩) rfl
  have g_less := He.glo_ok X G (c.fact 11 (f := .glo "less") rfl)
  obtain ⟨fd_is_mean, F_is_mean⟩ := c.def_ 12 (d := ⟨("is_mean", none), "is_mean", "is_mean", defArgs (top 22), defBody (top 22), defScope (top 22), [], []⟩) rfl
  have g_is_mean := He.glo_ok X G (c.fact 12 (f := .glo "is_mean") rfl)
  obtain ⟨fd_counts, F_counts⟩ := c.def_ 13 (d := ⟨("counts", none), "counts", "counts", defArgs (top 24), defBody (top 24), defScope (top 24), [], []⟩) rfl
  have g_counts := He.glo_ok X G (c.fact 13 (f := .glo "counts") rfl)
  obtain ⟨fd_double_area, F_double_area⟩ := c.def_ 14 (d := ⟨("double_area", none), "double_area", "double_area", defArgs (top 26), defBody (top 26), defScope (top 26), [], []⟩) rfl
  have g_double_area := He.glo_ok X G (c.fact 14 (f := .glo "double_area") rfl)
  obtain ⟨fd_way_turn, F_way_turn⟩ := c.def_ 15 (d := ⟨("way_turn", none), "way_turn", "way_turn", defArgs (top 28), defBody (top 28), defScope (top 28), [], []⟩) rfl
  have g_way_turn := He.glo_ok X G (c.fact 15 (f := .glo "way_turn") rfl)
  obtain ⟨fd_corners_of, F_corners_of⟩ := c.def_ 16 (d := ⟨("corners_of", none), "corners_of", "corners_of", defArgs (top 29), defBody (top 29), defScope (top 29), [], []⟩) rfl
  have g_corners_of := He.glo_ok X G (c.fact 16 (f := .glo "corners_of") rfl)
  obtain ⟨fd_hull_of, F_hull_of⟩ := c.def_ 17 (d := ⟨("hull_of", none), "hull_of", "hull_of", defArgs (top 30), defBody (top 30), defScope (top 30), [], []⟩) rfl
  have g_hull_of := He.glo_ok X G (c.fact 17 (f := .glo "hull_of") rfl)
  obtain ⟨fd_height_of, F_height_of⟩ := c.def_ 18 (d := ⟨("height_of", none), "height_of", "height_of", defArgs (top 31), defBody (top 31), defScope (top 31), [], []⟩) rfl
  have g_height_of := He.glo_ok X G (c.fact 18 (f := .glo "height_of") rfl)
  obtain ⟨fd_hull_height, F_hull_height⟩ := c.def_ 19 (d := ⟨("hull_height", none), "hull_height", "hull_height", defArgs (top 32), defBody (top 32), defScope (top 32), [], []⟩) rfl
  have g_hull_height := He.glo_ok X G (c.fact 19 (f := .glo "hull_height") rfl)
  obtain ⟨fd_check_share, F_check_share⟩ := c.def_ 20 (d := ⟨("check_share", none), "check_share", "check_share", defArgs (top 34), defBody (top 34), defScope (top 34), [], []⟩) rfl
  have g_check_share := He.glo_ok X G (c.fact 20 (f := .glo "check_share") rfl)
  obtain ⟨fd_mean_point, F_mean_point⟩ := c.def_ 21 (d := ⟨("mean_point", none), "mean_point", "mean_point", defArgs (top 35), defBody (top 35), defScope (top 35), [], []⟩) rfl
  have g_mean_point := He.glo_ok X G (c.fact 21 (f := .glo "mean_point") rfl)
  obtain ⟨fd_mixed_alarms, F_mixed_alarms⟩ := c.def_ 22 (d := ⟨("mixed_alarms", none), "mixed_alarms", "mixed_alarms", defArgs (top 36), defBody (top 36), defScope (top 36), [], []⟩) rfl
  have g_mixed_alarms := He.glo_ok X G (c.fact 22 (f := .glo "mixed_alarms") rfl)
  obtain ⟨fd_check_both, F_check_both⟩ := c.def_ 23 (d := ⟨("check_both", none), "check_both", "check_both", defArgs (top 38), defBody (top 38), defScope (top 38), [], []⟩) rfl
  have g_check_both := He.glo_ok X G (c.fact 23 (f := .glo "check_both") rfl)
  obtain ⟨fd_height, F_height⟩ := c.def_ 24 (d := ⟨("height", none), "height", "height", defArgs (top 39), defBody (top 39), defScope (top 39), [], []⟩) rfl
  have g_height := He.glo_ok X G (c.fact 24 (f := .glo "height") rfl)
  obtain ⟨fd_height_ahead, F_height_ahead⟩ := c.def_ 25 (d := ⟨("height_ahead", none), "height_ahead", "height_ahead", defArgs (top 40), defBody (top 40), defScope (top 40), [], []⟩) rfl
  have g_height_ahead := He.glo_ok X G (c.fact 25 (f := .glo "height_ahead") rfl)
  obtain ⟨fd_is_above, F_is_above⟩ := c.def_ 26 (d := ⟨("is_above", none), "is_above", "is_above", defArgs (top 41), defBody (top 41), defScope (top 41), [], []⟩) rfl
  have g_is_above := He.glo_ok X G (c.fact 26 (f := .glo "is_above") rfl)
  obtain ⟨fd_first_below, F_first_below⟩ := c.def_ 27 (d := ⟨("first_below", none), "first_below", "first_below", defArgs (top 42), defBody (top 42), defScope (top 42), [], []⟩) rfl
  have g_first_below := He.glo_ok X G (c.fact 27 (f := .glo "first_below") rfl)
  obtain ⟨fd_area_difference, F_area_difference⟩ := c.def_ 28 (d := ⟨("area_difference", none), "area_difference", "area_difference", defArgs (top 43), defBody (top 43), defScope (top 43), [], []⟩) rfl
  have g_area_difference := He.glo_ok X G (c.fact 28 (f := .glo "area_difference") rfl)
  obtain ⟨fd_joined, F_joined⟩ := c.def_ 29 (d := ⟨("joined", none), "joined", "joined", defArgs (top 44), defBody (top 44), defScope (top 44), [], []⟩) rfl
  have g_joined := He.glo_ok X G (c.fact 29 (f := .glo "joined") rfl)
  obtain ⟨fd_led, F_led⟩ := c.def_ 30 (d := ⟨("led", none), "led", "led", defArgs (top 45), defBody (top 45), defScope (top 45), [], []⟩) rfl
  have g_led := He.glo_ok X G (c.fact 30 (f := .glo "led") rfl)
  obtain ⟨fd_things_with, F_things_with⟩ := c.def_ 31 (d := ⟨("things_with", none), "things_with", "things_with", defArgs (top 48), defBody (top 48), defScope (top 48), [], []⟩) rfl
  have g_things_with := He.glo_ok X G (c.fact 31 (f := .glo "things_with") rfl)
  obtain ⟨fd_check_numbers, F_check_numbers⟩ := c.def_ 32 (d := ⟨("check_numbers", none), "check_numbers", "check_numbers", defArgs (top 49), defBody (top 49), defScope (top 49), [], []⟩) rfl
  have g_check_numbers := He.glo_ok X G (c.fact 32 (f := .glo "check_numbers") rfl)
  obtain ⟨fd_ways_to, F_ways_to⟩ := c.def_ 33 (d := ⟨("ways_to", none), "ways_to", "ways_to", defArgs (top 50), defBody (top 50), defScope (top 50), [], []⟩) rfl
  have g_ways_to := He.glo_ok X G (c.fact 33 (f := .glo "ways_to") rfl)
  obtain ⟨fd_all_curves, F_all_curves⟩ := c.def_ 34 (d := ⟨("all_curves", none), "all_curves", "all_curves", defArgs (top 51), defBody (top 51), defScope (top 51), [], []⟩) rfl
  have g_all_curves := He.glo_ok X G (c.fact 34 (f := .glo "all_curves") rfl)
  obtain ⟨fd_count_curves, F_count_curves⟩ := c.def_ 35 (d := ⟨("count_curves", none), "count_curves", "count_curves", defArgs (top 52), defBody (top 52), defScope (top 52), [], []⟩) rfl
  have g_count_curves := He.glo_ok X G (c.fact 35 (f := .glo "count_curves") rfl)
  obtain ⟨fd_curve_at, F_curve_at⟩ := c.def_ 36 (d := ⟨("curve_at", none), "curve_at", "curve_at", defArgs (top 53), defBody (top 53), defScope (top 53), [], []⟩) rfl
  have g_curve_at := He.glo_ok X G (c.fact 36 (f := .glo "curve_at") rfl)
  obtain ⟨fd_format_points, F_format_points⟩ := c.def_ 37 (d := ⟨("format_points", none), "format_points", "format_points", defArgs (top 57), defBody (top 57), defScope (top 57), [], []⟩) rfl
  have g_format_points := He.glo_ok X G (c.fact 37 (f := .glo "format_points") rfl)
  obtain ⟨fd__law_start, F__law_start⟩ := c.def_ 38 (d := ⟨("_law_start", none), "_law_start", "_law_start", defArgs (top 59), defBody (top 59), defScope (top 59), [], []⟩) rfl
  have g__law_start := He.glo_ok X G (c.fact 38 (f := .glo "_law_start") rfl)
  obtain ⟨fd__law_draw, F__law_draw⟩ := c.def_ 39 (d := ⟨("_law_draw", none), "_law_draw", "_law_draw", defArgs (top 60), defBody (top 60), defScope (top 60), [], []⟩) rfl
  have g__law_draw := He.glo_ok X G (c.fact 39 (f := .glo "_law_draw") rfl)
  obtain ⟨fd__law_error, F__law_error⟩ := c.def_ 40 (d := ⟨("_law_error", none), "_law_error", "_law_error", defArgs (top 61), defBody (top 61), defScope (top 61), [], []⟩) rfl
  have g__law_error := He.glo_ok X G (c.fact 40 (f := .glo "_law_error") rfl)
  obtain ⟨fd__law_call, F__law_call⟩ := c.def_ 41 (d := ⟨("_law_call", none), "_law_call", "_law_call", defArgs (top 62), defBody (top 62), defScope (top 62), [], []⟩) rfl
  have g__law_call := He.glo_ok X G (c.fact 41 (f := .glo "_law_call") rfl)
  obtain ⟨fd__law_asked, F__law_asked⟩ := c.def_ 42 (d := ⟨("_law_asked", none), "_law_asked", "_law_asked", defArgs (top 63), defBody (top 63), defScope (top 63), [], []⟩) rfl
  have g__law_asked := He.glo_ok X G (c.fact 42 (f := .glo "_law_asked") rfl)
  obtain ⟨fd__law_watch, F__law_watch⟩ := c.def_ 43 (d := ⟨("_law_watch", none), "_law_watch", "_law_watch", defArgs (top 64), defBody (top 64), defScope (top 64), [], []⟩) rfl
  have g__law_watch := He.glo_ok X G (c.fact 43 (f := .glo "_law_watch") rfl)
  obtain ⟨fd__law_lists, F__law_lists⟩ := c.def_ 44 (d := ⟨("_law_lists", none), "_law_lists", "_law_lists", defArgs (top 65), defBody (top 65), defScope (top 65), [], []⟩) rfl
  have g__law_lists := He.glo_ok X G (c.fact 44 (f := .glo "_law_lists") rfl)
  obtain ⟨fd_law, F_law⟩ := c.def_ 45 (d := ⟨("law", none), "law", "law", defArgs (top 66), defBody (top 66), defScope (top 66), [], []⟩) rfl
  have g_law := He.glo_ok X G (c.fact 45 (f := .glo "law") rfl)
  have x_BadThings : ExcF K mg (clsK K) 0 "BadThings" := exc_mk X G rfl (c.fact 46 (f := .glo "BadThings") rfl) (c.fact 51 (f := .exc "BadThings") rfl)
  have x_BadNumber : ExcF K mg (clsK K) 1 "BadNumber" := exc_mk X G rfl (c.fact 47 (f := .glo "BadNumber") rfl) (c.fact 52 (f := .exc "BadNumber") rfl)
  have x_BadPoints : ExcF K mg (clsK K) 2 "BadPoints" := exc_mk X G rfl (c.fact 48 (f := .glo "BadPoints") rfl) (c.fact 53 (f := .exc "BadPoints") rfl)
  have x_BadText : ExcF K mg (clsK K) 3 "BadText" := exc_mk X G rfl (c.fact 49 (f := .glo "BadText") rfl) (c.fact 54 (f := .exc "BadText") rfl)
  have x_NotFound : ExcF K mg (clsK K) 4 "NotFound" := exc_mk X G rfl (c.fact 50 (f := .glo "NotFound") rfl) (c.fact 55 (f := .exc "NotFound") rfl)
  obtain ⟨t_MOST_THINGS, c_MOST_THINGS⟩ := int_mk X G (c.fact 56 (f := .int "MOST_THINGS" 12) rfl)
  obtain ⟨t_MOST_SCORE, c_MOST_SCORE⟩ := int_mk X G (c.fact 57 (f := .int "MOST_SCORE" 99) rfl)
  obtain ⟨t_MOST_EACH, c_MOST_EACH⟩ := int_mk X G (c.fact 58 (f := .int "MOST_EACH" 4) rfl)
  have T : WaC K mg (He.ga K "Watch") := ⟨He.cls_ok (c.fact 60 (f := .cls "Watch") rfl), He.noat_ok (c.fact 61 (f := .noat "Watch" "threshold") rfl), He.noat_ok (c.fact 62 (f := .noat "Watch" "line") rfl), He.glo_ok X G (c.fact 59 (f := .glo "Watch") rfl)⟩
  obtain ⟨fd_W___init__, F_W___init__⟩ := c.def_ 46 (d := ⟨("Watch", some "__init__"), "__init__", "Watch.__init__", defArgs (inClass (top 55) 0), defBody (inClass (top 55) 0), defScope (inClass (top 55) 0), [], []⟩) rfl
  obtain ⟨fd_W_push, F_W_push⟩ := c.def_ 47 (d := ⟨("Watch", some "push"), "push", "Watch.push", defArgs (inClass (top 55) 1), defBody (inClass (top 55) 1), defScope (inClass (top 55) 1), [], []⟩) rfl
  obtain ⟨fd_W_move, F_W_move⟩ := c.def_ 48 (d := ⟨("Watch", some "move"), "move", "Watch.move", defArgs (inClass (top 55) 2), defBody (inClass (top 55) 2), defScope (inClass (top 55) 2), [], []⟩) rfl
  obtain ⟨fd_W_counts, F_W_counts⟩ := c.def_ 49 (d := ⟨("Watch", some "counts"), "counts", "Watch.counts", defArgs (inClass (top 55) 3), defBody (inClass (top 55) 3), defScope (inClass (top 55) 3), [], []⟩) rfl
  obtain ⟨fd_W_things, F_W_things⟩ := c.def_ 50 (d := ⟨("Watch", some "things"), "things", "Watch.things", defArgs (inClass (top 55) 4), defBody (inClass (top 55) 4), defScope (inClass (top 55) 4), [], []⟩) rfl
  obtain ⟨fd_W_undo, F_W_undo⟩ := c.def_ 51 (d := ⟨("Watch", some "undo"), "undo", "Watch.undo", defArgs (inClass (top 55) 5), defBody (inClass (top 55) 5), defScope (inClass (top 55) 5), [], []⟩) rfl
  obtain ⟨fd_W___len__, F_W___len__⟩ := c.def_ 52 (d := ⟨("Watch", some "__len__"), "__len__", "Watch.__len__", defArgs (inClass (top 55) 6), defBody (inClass (top 55) 6), defScope (inClass (top 55) 6), [], []⟩) rfl
  have mk_W := He.mkr_ok (c.fact 63 (f := .mkr "Watch") rfl)
  have me_push := He.meth_ok (c.fact 64 (f := .meth "Watch" "push") rfl)
  have me_move := He.meth_ok (c.fact 65 (f := .meth "Watch" "move") rfl)
  have me_counts := He.meth_ok (c.fact 66 (f := .meth "Watch" "counts") rfl)
  have me_things := He.meth_ok (c.fact 67 (f := .meth "Watch" "things") rfl)
  have me_undo := He.meth_ok (c.fact 68 (f := .meth "Watch" "undo") rfl)
  have me___len__ := He.meth_ok (c.fact 69 (f := .meth "Watch" "__len__") rfl)
  have ek : ErrK K mg (clsK K) := errK_mk X G cb (c.fact 70 (f := .glo "AlarmError") rfl) (c.fact 71 (f := .free "ValueError") rfl)
  have g : Free mg := free_mk X G fun f hf => by
    obtain ⟨i, hi, e⟩ := List.getElem_of_mem hf
    exact c.fact (72 + i) (by
      unfold faL
      rw [List.getElem?_append_right (by simp), show 72 + i - _ = i from by simp]
      rw [← e]
      exact List.getElem?_eq_getElem hi)
  have e := hfa.symm.trans g_law
  cases e
  have bl := FunD.bindsA (ps := ["script"]) F_law fun _ _ _ _ _ _ us hl => match us, hl with | [_], _ => rfl
  refine ⟨fd_law, fun s v => bl s [v] rfl, fun base _ _ => ?_⟩
  have f_is_int : FnP P w K mg base (clsK K) 1 "is_int" 3 m_is_int := ok_is_int F_is_int g_is_int g
  have f_is_thing : FnP P w K mg base (clsK K) 2 "is_thing" 1 m_is_thing := ok_is_thing F_is_thing g_is_thing g f_is_int c_MOST_SCORE
  have f_check_threshold : FnP P w K mg base (clsK K) 2 "check_threshold" 1 m_check_threshold := ok_check_threshold F_check_threshold g_check_threshold g f_is_int c_MOST_SCORE x_BadNumber
  have i_W : FnI P w K mg base (clsK K) (He.ga K "Watch") 3 := ⟨_, _, ok_W_init F_W___init__ T f_check_threshold, mk_W, F_W___init__.bindsN fun _ _ _ _ _ _ us hl => match us, hl with | [_, _], _ => rfl⟩
  have l_W : FnL P w K mg base (clsK K) (He.ga K "Watch") 1 := ⟨_, _, ok_W_len F_W___len__ T g, me___len__, F_W___len__.bindsN fun _ _ _ _ _ _ us hl => match us, hl with | [_], _ => rfl⟩
  have w_push : FnM P w K mg base (clsK K) (He.ga K "Watch") 3 "push" 2 m_push := ⟨_, _, _, ok_W_push F_W_push T f_is_thing x_BadThings, me_push, (F_W_push.bindsN fun _ _ _ _ _ _ us hl => match us, hl with | [_, _], _ => rfl), by decide +kernel, by decide +kernel⟩
  have w_move : FnM P w K mg base (clsK K) (He.ga K "Watch") 3 "move" 2 m_W_move := ⟨_, _, _, ok_W_move F_W_move T g f_check_threshold, me_move, (F_W_move.bindsN fun _ _ _ _ _ _ us hl => match us, hl with | [_, _], _ => rfl), by decide +kernel, by decide +kernel⟩
  have w_counts : FnM P w K mg base (clsK K) (He.ga K "Watch") 1 "counts" 1 m_W_counts := ⟨_, _, _, ok_W_counts F_W_counts T g, me_counts, (F_W_counts.bindsN fun _ _ _ _ _ _ us hl => match us, hl with | [_], _ => rfl), by decide +kernel, by decide +kernel⟩
  have w_things : FnM P w K mg base (clsK K) (He.ga K "Watch") 1 "things" 1 m_things := ⟨_, _, _, ok_W_things F_W_things T g, me_things, (F_W_things.bindsN fun _ _ _ _ _ _ us hl => match us, hl with | [_], _ => rfl), by decide +kernel, by decide +kernel⟩
  have w_undo : FnM P w K mg base (clsK K) (He.ga K "Watch") 1 "undo" 1 m_undo := ⟨_, _, _, ok_W_undo F_W_undo T x_NotFound, me_undo, (F_W_undo.bindsN fun _ _ _ _ _ _ us hl => match us, hl with | [_], _ => rfl), by decide +kernel, by decide +kernel⟩
  have f_common : FnP P w K mg base (clsK K) 1 "common" 2 m_common := ok_common F_common g_common g
  have f_less : FnP P w K mg base (clsK K) 1 "less" 2 m_less := ok_less F_less g_less g
  have f_counts : FnP P w K mg base (clsK K) 1 "counts" 2 m_counts := ok_counts F_counts g_counts g
  have f_double_area : FnP P w K mg base (clsK K) 1 "double_area" 1 m_double_area := ok_double_area F_double_area g_double_area g
  have f_way_turn : FnP P w K mg base (clsK K) 1 "way_turn" 3 m_way_turn := ok_way_turn F_way_turn g_way_turn g
  have d__law_draw : FnD P w K mg base (clsK K) 1 "_law_draw" 2 m__law_draw := ok__law_draw F__law_draw g__law_draw g
  have eE : FnOk P w K mg base (L2.CX P w) 1 _ fd__law_error ["caught"] (spX (clsK K) errN) := ok__law_error F__law_error g ek x_BadThings x_BadNumber x_BadPoints x_BadText x_NotFound
  have bE : Binds K fd__law_error ["caught"] [] := F__law_error.bindsN fun _ _ _ _ _ _ us hl => match us, hl with | [_], _ => rfl
  have f_is_points : FnP P w K mg base (clsK K) 2 "is_points" 1 m_is_points := ok_is_points F_is_points g_is_points g f_is_int c_MOST_THINGS
  have f_lowest : FnP P w K mg base (clsK K) 2 "lowest" 2 m_lowest := ok_lowest F_lowest g_lowest g f_common
  have f_is_mean : FnP P w K mg base (clsK K) 2 "is_mean" 2 m_is_mean := ok_is_mean F_is_mean g_is_mean g f_is_int f_common
  have f_corners_of : FnP P w K mg base (clsK K) 2 "corners_of" 1 m_corners_of := ok_corners_of F_corners_of g_corners_of g f_way_turn
  have f_check_share : FnP P w K mg base (clsK K) 2 "check_share" 1 m_check_share := ok_check_share F_check_share g_check_share g f_is_int f_common x_BadNumber
  have f_check_numbers : FnP P w K mg base (clsK K) 2 "check_numbers" 2 m_check_numbers := ok_check_numbers F_check_numbers g_check_numbers g f_is_int c_MOST_EACH x_BadNumber
  have f_is_things : FnP P w K mg base (clsK K) 3 "is_things" 1 m_is_things := ok_is_things F_is_things g_is_things g f_is_thing c_MOST_THINGS
  have f_check_points : FnP P w K mg base (clsK K) 3 "check_points" 1 m_check_points := ok_check_points F_check_points g_check_points g f_is_points x_BadPoints
  have f_plus : FnP P w K mg base (clsK K) 3 "plus" 2 m_plus := ok_plus F_plus g_plus g f_lowest
  have f_product : FnP P w K mg base (clsK K) 3 "product" 2 m_product := ok_product F_product g_product g f_lowest
  have f_height_of : FnP P w K mg base (clsK K) 3 "height_of" 2 m_height_of := ok_height_of F_height_of g_height_of g f_lowest f_less
  have f_height : FnP P w K mg base (clsK K) 3 "height" 2 m_height := ok_height F_height g_height g f_lowest f_less
  have f_count_curves : FnP P w K mg base (clsK K) 3 "count_curves" 2 m_count_curves := ok_count_curves F_count_curves g_count_curves g f_check_numbers
  have f_check_things : FnP P w K mg base (clsK K) 4 "check_things" 1 m_check_things := ok_check_things F_check_things g_check_things g f_is_things x_BadThings
  have f_hull_of : FnP P w K mg base (clsK K) 4 "hull_of" 1 m_hull_of := ok_hull_of F_hull_of g_hull_of g f_check_points f_corners_of
  have f_hull_height : FnP P w K mg base (clsK K) 4 "hull_height" 2 m_hull_height := ok_hull_height F_hull_height g_hull_height g f_check_points f_height_of f_is_mean f_corners_of x_BadNumber
  have f_mean_point : FnP P w K mg base (clsK K) 4 "mean_point" 3 m_mean_point := ok_mean_point F_mean_point g_mean_point g f_plus f_product
  have f_check_both : FnP P w K mg base (clsK K) 4 "check_both" 2 m_check_both := ok_check_both F_check_both g_check_both g f_check_points x_BadPoints
  have f_height_ahead : FnP P w K mg base (clsK K) 4 "height_ahead" 2 m_height_ahead := ok_height_ahead F_height_ahead g_height_ahead g f_height
  have f_things_with : FnP P w K mg base (clsK K) 4 "things_with" 1 m_things_with := ok_things_with F_things_with g_things_with g f_check_points
  have f_format_points : FnP P w K mg base (clsK K) 4 "format_points" 1 m_format_points := ok_format_points F_format_points g_format_points g f_check_points
  have f_mixed_alarms : FnP P w K mg base (clsK K) 5 "mixed_alarms" 4 m_mixed_alarms := ok_mixed_alarms F_mixed_alarms g_mixed_alarms g f_check_things f_check_share f_mean_point f_counts f_is_int x_BadNumber
  have f_is_above : FnP P w K mg base (clsK K) 5 "is_above" 2 m_is_above := ok_is_above F_is_above g_is_above g f_check_both f_less f_height f_height_ahead
  have f_first_below : FnP P w K mg base (clsK K) 5 "first_below" 2 m_first_below := ok_first_below F_first_below g_first_below g f_check_both f_less f_height
  have f_area_difference : FnP P w K mg base (clsK K) 5 "area_difference" 2 m_area_difference := ok_area_difference F_area_difference g_area_difference g f_check_both f_double_area
  have f_joined : FnP P w K mg base (clsK K) 5 "joined" 2 m_joined := ok_joined F_joined g_joined g f_check_things
  have f_led : FnP P w K mg base (clsK K) 5 "led" 2 m_led := ok_led F_led g_led g f_check_things f_is_int x_BadNumber
  have o_ways_to : FnO P w K mg base (clsK K) (Wk (clsK K)) 9 "ways_to" 2 (fun _ => m_ways_to 8) := ok_ways_to F_ways_to g_ways_to g 8
  have f_all_curves : FnP P w K mg base (clsK K) 10 "all_curves" 2 m_all_curves := ok_all_curves F_all_curves g_all_curves g f_check_numbers o_ways_to x_BadNumber
  have f_curve_at : FnP P w K mg base (clsK K) 11 "curve_at" 3 m_curve_at := ok_curve_at F_curve_at g_curve_at g f_all_curves f_is_int x_BadNumber
  have j__law_call : FnJ P w K mg base (clsK K) 12 "_law_call" 4 m__law_call := ok__law_call F__law_call g__law_call g T i_W f_hull_of f_things_with f_format_points f_hull_height f_is_above f_first_below f_area_difference f_led f_joined f_mixed_alarms f_count_curves f_all_curves f_curve_at
  have x__law_call : FnX P w K mg base (clsK K) (He.ga K "Watch") 12 "_law_call" 4 x__law_call := ox__law_call F__law_call g__law_call g T w_push w_move w_undo
  have f__law_asked : FnP P w K mg base (clsK K) 13 "_law_asked" 4 m__law_asked := ok__law_asked F__law_asked g__law_asked g ek eE g__law_error F__law_error.kp bE j__law_call
  have o__law_asked : FnO P w K mg base (clsK K) (Ww (clsK K) (He.ga K "Watch")) 13 "_law_asked" 4 (fun _ => n__law_asked) := ox__law_asked F__law_asked g__law_asked g ek eE g__law_error F__law_error.kp bE x__law_call
  have f__law_watch : FnP P w K mg base (clsK K) 14 "_law_watch" 0 m__law_watch := ok__law_watch F__law_watch g__law_watch g T i_W l_W w_push w_move w_counts w_things w_undo o__law_asked f__law_asked
  have f__law_lists : FnP P w K mg base (clsK K) 14 "_law_lists" 0 m__law_lists := ok__law_lists F__law_lists g__law_lists g f__law_asked f_count_curves
  exact ok_law F_law F__law_start g__law_start g f__law_lists f__law_watch f_is_points f__law_asked d__law_draw hlaw

end KK
set_option maxHeartbeats 0
open PySem PySem.W PySem.Calls PyProof.Rows
theorem PySem.Challenge.cw_alarmcurves_k17_more_errors_holds : PySem.Challenge.rw_alarmcurves_k17_more_errors.Holds := by
  w_on; o_law
  refine HandSHeadRun.head_any (r := OpenLaw.row PySem.Challenge.rw_alarmcurves_k17_more_errors) (q := view (OpenLaw.row PySem.Challenge.rw_alarmcurves_k17_more_errors).prog [66]) (H := KK.hkK) (ob := KK.obK) (M := 8000) (loose := KK.looseK) (d := HandSHeadRun.topDef (OpenLaw.row PySem.Challenge.rw_alarmcurves_k17_more_errors).prog 66) (kwd := []) KK.obK_eq
    (by kernel_rfl) (fun s => by kernel_rfl) KK.runK (by kernel_rfl) (by kernel_rfl) (by kernel_rfl) (by rfl) (by first | assumption | decide +kernel) (by decide +kernel) ⟨rfl, rfl, rfl, rfl, rfl, by decide +kernel⟩ ?hw ?hc
  case hw => w_witness2
  case hc =>
    refine L2.walk_ofE (l := PySem.Challenge.rw_alarmcurves_k17_more_errors) (n := 63) (k := 15) (x := "script") (CX := L2.CX0) rfl (by decide) (by kernel_rfl) ⟨rfl, by decide, by decide⟩ ?F (fun _ _ _ _ z => z)
    intro w mg fa h Y G hmg0
    obtain ⟨K, KX, c⟩ := Y
    have hmg : mg ("law" : PySem.Str) = some (.ref fa) := by
      have e : (HandSHeadRun.topDef (OpenLaw.row PySem.Challenge.rw_alarmcurves_k17_more_errors).prog 66).name = ("law" : PySem.Str) := by kernel_rfl
      rw [← e]
      exact hmg0
    obtain ⟨fd, hb, hF⟩ := KK.factsK (P := (PySem.Challenge.rw_alarmcurves_k17_more_errors).prog) (w := w) KX G hmg c.t.d c.more KK.law_true
    exact ⟨K, fd, DL.spLaw K, KX, hb, fun H a ns hl _ hS => ⟨a, ns, rfl, hS, hl, fun _ => rfl⟩, fun base k1 k2 => DL.law_noX (hF base k1 k2)⟩

