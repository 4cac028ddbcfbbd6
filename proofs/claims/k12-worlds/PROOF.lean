import PyProof.Rows.All
import Wide.All
import OpenK.AllK
import Wide.FinOn
import HandS.ForMost
import HandS.Evl
import HandS.ForExc
import HandS.Wide
import HandS.Deep
import HandS.TupAny
import HandS.Flow
import HandS.Style
import HandS.TupLe
import HandS.Conv
import HandS.IsInst
import HandS.CallLocal
import KE.GoesEnum
import HandS.Iter
import KE.KDictZip
import KE.KDictItemsList
import HandS.ListItems
import HandS.Zip
import PySem.Challenge.RW_porterbook_k12_worlds_of_houses_drawn_by
set_option Elab.async false
set_option linter.all false
set_option maxRecDepth 100000
set_option maxHeartbeats 8000000
/-! Z0: plain values under the hand layer: data, a store of own objects, outcomes; what relates them to the abstract heap. -/
namespace Z
open PySem PySem.Spec L2
open PyProof.Rows hiding St

abbrev D := PyData
/-- what a name holds: data, or the place of an own object in the store -/
inductive SV where
  | d (x : D) | r (i : Nat) | f (k : Str) | s (ns : List Int)
/-- an own object: a list, one that changes no more, an instance -/
inductive Ob where
  | lst (xs : List D) | frz (x : D) | ins (c : Str) (fs : List (Str × D))
abbrev Vn := List (Option SV)
abbrev Sto := List Ob
structure Exn where
  cls : Str
  fs : List (Str × D)
inductive Out (α : Type) where
  | ok (a : α) (S : Sto) | exc (x : Exn) (S : Sto) | bad
def Out.bind {α β : Type} : Out α → (α → Sto → Out β) → Out β
  | .ok a S, f => f a S
  | .exc x S, _ => .exc x S
  | .bad, _ => .bad
theorem bind_ok {α β : Type} (a : α) (S : Sto) (f : α → Sto → Out β) : (Out.ok a S).bind f = f a S := rfl
theorem bind_exc {α β : Type} (x : Exn) (S : Sto) (f : α → Sto → Out β) : (Out.exc x S : Out α).bind f = .exc x S := rfl
theorem bind_bad {α β : Type} (f : α → Sto → Out β) : (Out.bad : Out α).bind f = .bad := rfl
abbrev M (α : Type) := Vn → Sto → Out α

/-! ### data in the heap -/
mutual
inductive DR (K : PySem.W.Frag) (B : Hp) : V → D → Prop
  | non : DR K B .non .none
  | bl (b : Bool) : DR K B (.bl b) (.bool b)
  | int (i : Int) : DR K B (.int i) (.int i)
  | str (x : Str) : DR K B (.str x) (.str x)
  | lst {a : Addr} {xs : List V} {ds : List D} : B a = some (.lst xs) → DRs K B xs ds → DR K B (.ref a) (.list ds)
  | tup {a : Addr} {xs : List V} {ds : List D} : SqT K B a xs → DRs K B xs ds → DR K B (.ref a) (.tuple ds)
inductive DRs (K : PySem.W.Frag) (B : Hp) : List V → List D → Prop
  | nil : DRs K B [] []
  | cons {v : V} {vs : List V} {d : D} {ds : List D} : DR K B v d → DRs K B vs ds → DRs K B (v :: vs) (d :: ds)
end
abbrev Xs (H H' : Hp) : Prop := Evl.Ex H H'
section
variable {K : PySem.W.Frag} {B B' : Hp}
mutual
theorem DR.mono (e : Xs B B') : ∀ {v : V} {d : D}, DR K B v d → DR K B' v d
  | _, _, .non => .non
  | _, _, .bl b => .bl b
  | _, _, .int i => .int i
  | _, _, .str x => .str x
  | _, _, .lst h r => .lst (e _ _ h) (DRs.mono e r)
  | _, _, .tup h r => .tup (Evl.ex_t e h) (DRs.mono e r)
theorem DRs.mono (e : Xs B B') : ∀ {vs : List V} {ds : List D}, DRs K B vs ds → DRs K B' vs ds
  | _, _, .nil => .nil
  | _, _, .cons h r => .cons (DR.mono e h) (DRs.mono e r)
end
mutual
theorem DR.dp : ∀ {v : V} {d : D}, DR K B v d → Dp K B v d
  | _, _, .non => .non
  | _, _, .bl b => .bl b
  | _, _, .int i => .int i
  | _, _, .str x => .str x
  | _, _, .lst h r => .lst (SqL.of h) (DRs.dp r)
  | _, _, .tup h r => .tup h (DRs.dp r)
theorem DRs.dp : ∀ {vs : List V} {ds : List D}, DRs K B vs ds → DpAll K B vs ds
  | _, _, .nil => .nil
  | _, _, .cons h r => .cons (DR.dp h) (DRs.dp r)
end
theorem DRs.length : ∀ {vs : List V} {ds : List D}, DRs K B vs ds → vs.length = ds.length
  | _, _, .nil => rfl
  | _, _, .cons _ r => congrArg (· + 1) (DRs.length r)
theorem DRs.get : ∀ {vs : List V} {ds : List D}, DRs K B vs ds → ∀ {i : Nat} {d : D}, ds[i]? = some d → ∃ v, vs[i]? = some v ∧ DR K B v d
  | _, _, .nil, _, _, e => by simp at e
  | _, _, .cons h r, 0, _, e => by simp at e; subst e; exact ⟨_, rfl, h⟩
  | _, _, .cons h r, i + 1, _, e => by
    obtain ⟨v, h1, h2⟩ := DRs.get r (i := i) (by simpa using e)
    exact ⟨v, by simpa using h1, h2⟩
theorem DRs.getV : ∀ {vs : List V} {ds : List D}, DRs K B vs ds → ∀ {i : Nat} {v : V}, vs[i]? = some v → ∃ d, ds[i]? = some d ∧ DR K B v d
  | _, _, .nil, _, _, e => by simp at e
  | _, _, .cons h r, 0, _, e => by simp at e; subst e; exact ⟨_, rfl, h⟩
  | _, _, .cons h r, i + 1, _, e => by
    obtain ⟨v, h1, h2⟩ := DRs.getV r (i := i) (by simpa using e)
    exact ⟨v, by simpa using h1, h2⟩
theorem DRs.app : ∀ {vs ws : List V} {ds es : List D}, DRs K B vs ds → DRs K B ws es → DRs K B (vs ++ ws) (ds ++ es)
  | _, _, _, _, .nil, q => q
  | _, _, _, _, .cons h r, q => .cons h (DRs.app r q)
theorem DRs.take : ∀ {vs : List V} {ds : List D} (n : Nat), DRs K B vs ds → DRs K B (vs.take n) (ds.take n)
  | _, _, 0, _ => by simp; exact .nil
  | _, _, _ + 1, .nil => by simp; exact .nil
  | _, _, n + 1, .cons h r => by simpa using .cons h (DRs.take n r)
theorem DRs.drop : ∀ {vs : List V} {ds : List D} (n : Nat), DRs K B vs ds → DRs K B (vs.drop n) (ds.drop n)
  | _, _, 0, r => by simpa using r
  | _, _, _ + 1, .nil => by simp; exact .nil
  | _, _, n + 1, .cons _ r => by simpa using DRs.drop n r
theorem DRs.rev : ∀ {vs : List V} {ds : List D}, DRs K B vs ds → DRs K B vs.reverse ds.reverse
  | _, _, .nil => .nil
  | _, _, .cons h r => by simpa using DRs.app (DRs.rev r) (.cons h .nil)
theorem DRs.set : ∀ {vs : List V} {ds : List D} (i : Nat) {v : V} {d : D}, DRs K B vs ds → DR K B v d → DRs K B (vs.set i v) (ds.set i d)
  | _, _, _, _, _, .nil, _ => .nil
  | _, _, 0, _, _, .cons _ r, q => .cons q r
  | _, _, i + 1, _, _, .cons h r, q => .cons h (DRs.set i r q)
theorem DRs.erase : ∀ {vs : List V} {ds : List D} (i : Nat), DRs K B vs ds → DRs K B (vs.eraseIdx i) (ds.eraseIdx i)
  | _, _, _, .nil => .nil
  | _, _, 0, .cons _ r => r
  | _, _, i + 1, .cons h r => .cons h (DRs.erase i r)
theorem DRs.ints : ∀ {vs : List V} {ns : List Int}, DRs K B vs (ns.map PyData.int) → vs = ns.map V.int
  | _, [], .nil => rfl
  | _, n :: ns, .cons (.int _) r => congrArg (V.int n :: ·) (DRs.ints r)
theorem DRs.bls : ∀ {vs : List V} {ns : List Bool}, DRs K B vs (ns.map PyData.bool) → vs = ns.map V.bl
  | _, [], .nil => rfl
  | _, n :: ns, .cons (.bl _) r => congrArg (V.bl n :: ·) (DRs.bls r)
theorem DRs.strs : ∀ {vs : List V} {ns : List Str}, DRs K B vs (ns.map PyData.str) → vs = ns.map V.str
  | _, [], .nil => rfl
  | _, n :: ns, .cons (.str _) r => congrArg (V.str n :: ·) (DRs.strs r)
theorem drs_ints (ns : List Int) : DRs K B (ns.map V.int) (ns.map PyData.int) := by
  induction ns with
  | nil => exact .nil
  | cons n ns ih => exact .cons (.int n) ih
end

/-! ### the store in the heap -/
def SVr (K : PySem.W.Frag) (cl : Str → Option Addr) (τ : List Addr) (B : Hp) (v : V) : SV → Prop
  | .d x => DR K B v x
  | .r i => ∃ a, τ[i]? = some a ∧ v = .ref a
  | .f k => ∃ a, cl k = some a ∧ v = .ref a
  | .s ns => ∃ a, v = .ref a ∧ SqL K B a (ns.map V.int)
inductive FsR (K : PySem.W.Frag) (B : Hp) : List (Str × V) → List (Str × D) → Prop
  | nil : FsR K B [] []
  | cons {f : Str} {v : V} {d : D} {vs : List (Str × V)} {ds : List (Str × D)} : DR K B v d → FsR K B vs ds → FsR K B ((f, v) :: vs) ((f, d) :: ds)
theorem FsR.mono {K : PySem.W.Frag} {B B' : Hp} (e : Xs B B') : ∀ {vs : List (Str × V)} {ds : List (Str × D)}, FsR K B vs ds → FsR K B' vs ds
  | _, _, .nil => .nil
  | _, _, .cons h r => .cons (h.mono e) (FsR.mono e r)
def ObR (K : PySem.W.Frag) (cl : Str → Option Addr) (B H : Hp) (a : Addr) : Ob → Prop
  | .lst xs => B a = none ∧ ∃ vs, H a = some (.lst vs) ∧ DRs K B vs xs
  | .frz x => DR K B (.ref a) x
  | .ins c fs => B a = none ∧ ∃ C dx vs, cl c = some C ∧ H a = some (.ins C dx vs) ∧ FsR K B vs fs
structure Rl (K : PySem.W.Frag) (cl : Str → Option Addr) (σ : St) (H : Hp) (E : Vn) (S : Sto) (τ : List Addr) (B : Hp) : Prop where
  ex : Xs B H
  tl : τ.length = S.length
  nd : τ.Nodup
  ob : ∀ (i : Nat) (o : Ob), S[i]? = some o → ∃ a, τ[i]? = some a ∧ (∃ u, H a = some u) ∧ ObR K cl B H a o
  sl : σ.length = E.length
  sv : ∀ (i : Nat) (x : SV), E[i]? = some (some x) → ∃ v, σ[i]? = some (some v) ∧ SVr K cl τ B v x
structure Xt (τ : List Addr) (B : Hp) (τ' : List Addr) (B' : Hp) : Prop where
  pre : ∃ m, τ' = τ ++ m
  ex : Xs B B'
theorem Xt.refl {τ : List Addr} {B : Hp} : Xt τ B τ B := ⟨⟨[], by simp⟩, Evl.Ex.refl _⟩
theorem Xt.trans {τ τ1 τ2 : List Addr} {B B1 B2 : Hp} (a : Xt τ B τ1 B1) (b : Xt τ1 B1 τ2 B2) : Xt τ B τ2 B2 := by
  obtain ⟨⟨m, e⟩, x⟩ := a
  obtain ⟨⟨m', e'⟩, x'⟩ := b
  exact ⟨⟨m ++ m', by rw [e', e, List.append_assoc]⟩, x.trans x'⟩
theorem Xt.at {τ τ' : List Addr} {B B' : Hp} (x : Xt τ B τ' B') {i : Nat} {a : Addr} (h : τ[i]? = some a) : τ'[i]? = some a := by
  obtain ⟨⟨m, e⟩, _⟩ := x
  rw [e, List.getElem?_append_left (List.getElem?_eq_some_iff.mp h).1]
  exact h
theorem SVr.mono {K : PySem.W.Frag} {cl : Str → Option Addr} {τ τ' : List Addr} {B B' : Hp} {v : V} {x : SV} (e : Xt τ B τ' B') (h : SVr K cl τ B v x) : SVr K cl τ' B' v x := by
  cases x with
  | d x => exact DR.mono e.ex h
  | r i =>
    obtain ⟨a, h1, h2⟩ := h
    exact ⟨a, e.at h1, h2⟩
  | f k => exact h
  | s ns =>
    obtain ⟨a, h1, h2⟩ := h
    exact ⟨a, h1, Evl.ex_l e.ex h2⟩

/-- fresh growth: new objects alone, some of them known -/
structure Grow (H B H' B' : Hp) : Prop where
  h : Xs H H'
  b : Xs B B'
  x : Xs B' H'
  f : ∀ a, B a = none → H a ≠ none → B' a = none
section
variable {K : PySem.W.Frag} {cl : Str → Option Addr} {σ : St} {H H' : Hp} {E : Vn} {S : Sto} {τ : List Addr} {B B' : Hp}
theorem Grow.refl (e : Xs B H) : Grow H B H B := ⟨Evl.Ex.refl _, Evl.Ex.refl _, e, fun _ h _ => h⟩
theorem Grow.trans {H2 B2 : Hp} (g : Grow H B H' B') (k : Grow H' B' H2 B2) : Grow H B H2 B2 := ⟨g.h.trans k.h, g.b.trans k.b, k.x, fun a h1 h2 => k.f a (g.f a h1 h2) (by
  cases e : H a with
  | none => exact absurd e h2
  | some u => rw [g.h a u e]; exact fun z => nomatch z)⟩
/-- a new object laid and known -/
theorem Grow.new {p : Addr} {o : HO} (e : Xs B H) (hp : H p = none) : Grow H B (upd H p o) (upd B p o) := by
  have bp : B p = none := Evl.fresh_back e hp
  refine ⟨Evl.Ex.new hp, Evl.Ex.new bp, fun a u q => ?_, fun a h1 h2 => ?_⟩
  · by_cases z : a = p
    · subst z
      rw [upd_same] at q ⊢
      exact q
    · rw [upd_ne z] at q ⊢
      exact e a u q
  · by_cases z : a = p
    · subst z
      exact absurd hp h2
    · rw [upd_ne z]
      exact h1
/-- a new object laid, not known -/
theorem Grow.newH {p : Addr} {o : HO} (e : Xs B H) (hp : H p = none) : Grow H B (upd H p o) B :=
  ⟨Evl.Ex.new hp, Evl.Ex.refl _, e.trans (Evl.Ex.new hp), fun _ h _ => h⟩
theorem ObR.grow {a : Addr} {o : Ob} (g : Grow H B H' B') (hu : ∃ u, H a = some u) (h : ObR K cl B H a o) : ObR K cl B' H' a o := by
  obtain ⟨u, hu⟩ := hu
  cases o with
  | lst xs =>
    obtain ⟨h1, vs, h2, h3⟩ := h
    exact ⟨g.f a h1 (by rw [hu]; exact fun z => nomatch z), vs, g.h _ _ h2, h3.mono g.b⟩
  | frz x => exact DR.mono g.b h
  | ins c fs =>
    obtain ⟨h1, C, dx, vs, h2, h3, h4⟩ := h
    exact ⟨g.f a h1 (by rw [hu]; exact fun z => nomatch z), C, dx, vs, h2, g.h _ _ h3, h4.mono g.b⟩
theorem Rl.grow (R : Rl K cl σ H E S τ B) (g : Grow H B H' B') : Rl K cl σ H' E S τ B' where
  ex := g.x
  tl := R.tl
  nd := R.nd
  ob := fun i o e => by
    obtain ⟨a, h1, ⟨u, hu⟩, h2⟩ := R.ob i o e
    exact ⟨a, h1, ⟨u, g.h _ _ hu⟩, h2.grow g ⟨u, hu⟩⟩
  sl := R.sl
  sv := fun i x e => by
    obtain ⟨v, h1, h2⟩ := R.sv i x e
    exact ⟨v, h1, h2.mono ⟨⟨[], by simp⟩, g.b⟩⟩
/-- a new own object -/
theorem Rl.push {p : Addr} {o : Ob} (R : Rl K cl σ H E S τ B) (hp : τ.all (· != p) = true) (hu : ∃ u, H p = some u) (ho : ObR K cl B H p o) : Rl K cl σ H E (S ++ [o]) (τ ++ [p]) B where
  ex := R.ex
  tl := by rw [List.length_append, List.length_append, R.tl]; rfl
  nd := by
    refine List.nodup_append.mpr ⟨R.nd, by simp, fun a ha b hb z => ?_⟩
    have e : b = p := by simpa using hb
    have := List.all_eq_true.mp hp a ha
    rw [z, e] at this
    simp at this
  ob := fun i q e => by
    by_cases z : i < S.length
    · rw [List.getElem?_append_left z] at e
      obtain ⟨a, h1, h2⟩ := R.ob i q e
      exact ⟨a, by rw [List.getElem?_append_left (by rw [R.tl]; exact z)]; exact h1, h2⟩
    · have z' : i = S.length := by
        have := (List.getElem?_eq_some_iff.mp e).1
        rw [List.length_append] at this
        simp at this
        omega
      subst z'
      rw [List.getElem?_append_right (Nat.le_refl _)] at e
      simp at e
      subst e
      exact ⟨p, by rw [List.getElem?_append_right (by rw [R.tl]; exact Nat.le_refl _), R.tl]; simp, hu, ho⟩
  sl := R.sl
  sv := fun i x e => by
    obtain ⟨v, h1, h2⟩ := R.sv i x e
    exact ⟨v, h1, h2.mono ⟨⟨[p], rfl⟩, Evl.Ex.refl _⟩⟩
theorem Rl.fresh {p : Addr} (R : Rl K cl σ H E S τ B) (hp : H p = none) : τ.all (· != p) = true := by
  refine List.all_eq_true.mpr fun a ha => ?_
  obtain ⟨i, hi, e⟩ := List.getElem_of_mem ha
  have hs : i < S.length := by rw [← R.tl]; exact hi
  obtain ⟨b, h1, ⟨u, hu⟩, _⟩ := R.ob i S[i] (List.getElem?_eq_getElem hs)
  rw [List.getElem?_eq_getElem hi, e] at h1
  cases h1
  have : a ≠ p := fun z => by
    rw [z, hp] at hu
    cases hu
  simpa using this
/-- a new own object at a new address -/
theorem Rl.lay {p : Addr} {o : Ob} {u : HO} (R : Rl K cl σ H E S τ B) (hp : H p = none) (ho : ObR K cl B (upd H p u) p o) : Rl K cl σ (upd H p u) E (S ++ [o]) (τ ++ [p]) B :=
  (R.grow (Grow.newH R.ex hp)).push (R.fresh hp) ⟨u, upd_same⟩ ho
/-- what was made on the way is let go -/
theorem Rl.back {S' : Sto} {τ' : List Addr} (R : Rl K cl σ H E S τ B) (x : Xt τ B τ' B') (R' : Rl K cl σ H' E S' τ' B') : Rl K cl σ H' E (S'.take S.length) τ B' := by
  obtain ⟨⟨m, e⟩, hx⟩ := x
  subst e
  have hl : S.length ≤ S'.length := by
    rw [← R'.tl, List.length_append, R.tl]
    omega
  refine ⟨R'.ex, ?_, R.nd, fun i o q => ?_, R.sl, fun i x q => ?_⟩
  · rw [List.length_take, R.tl]
    omega
  · have hi : i < S.length := by
      have := (List.getElem?_eq_some_iff.mp q).1
      rw [List.length_take] at this
      omega
    rw [List.getElem?_take, if_pos hi] at q
    obtain ⟨a, h1, h2⟩ := R'.ob i o q
    refine ⟨a, ?_, h2⟩
    rw [List.getElem?_append_left (by rw [R.tl]; exact hi)] at h1
    exact h1
  · obtain ⟨v, h1, h2⟩ := R.sv i x q
    exact ⟨v, h1, h2.mono ⟨⟨[], by simp⟩, hx⟩⟩
end

/-! ### readings -/
/-- an exception's own dict holds its fields -/
def ExD (K : PySem.W.Frag) (B H : Hp) (fs : List (Str × D)) : Option Addr → Prop
  | none => fs = []
  | some d => ∃ vs, H d = some (.xd vs) ∧ FsR K B vs fs
section
variable (K : PySem.W.Frag) (cl : Str → Option Addr) (Ex : WX)
def Post {α : Type} (σ : St) (E : Vn) (τ : List Addr) (B : Hp) (o : Out α) (G : α → Sto → List Addr → Hp → Hp → Prop) : Prop := match o with
  | .ok x S' => ∀ H' τ' B', Xt τ B τ' B' → Rl K cl σ H' E S' τ' B' → G x S' τ' B' H'
  | .exc x S' => ∀ H' τ' B', Xt τ B τ' B' → Rl K cl σ H' E S' τ' B' → ∀ C d, cl x.cls = some C → ExD K B' H' x.fs d → Ex (.ref C) d σ H'
  | .bad => False
def tE (m : M SV) : TE := fun σ H Q => ∃ E S τ B, Rl K cl σ H E S τ B ∧ Post K cl Ex σ E τ B (m E S) fun x _ τ' B' H' => ∀ v, SVr K cl τ' B' v x → Q v H'
def tT (m : M Bool) : TT := fun σ H Q => ∃ E S τ B, Rl K cl σ H E S τ B ∧ Post K cl Ex σ E τ B (m E S) fun b _ _ _ H' => Q b H'
inductive SVrs (τ : List Addr) (B : Hp) : List V → List SV → Prop
  | nil : SVrs τ B [] []
  | cons {v : V} {vs : List V} {x : SV} {xs : List SV} : SVr K cl τ B v x → SVrs τ B vs xs → SVrs τ B (v :: vs) (x :: xs)
def tA (m : M (List SV)) : TA := fun σ H Q => ∃ E S τ B, Rl K cl σ H E S τ B ∧ Post K cl Ex σ E τ B (m E S) fun xs _ τ' B' H' => ∀ vs, SVrs K cl τ' B' vs xs → Q vs H'
end
section
variable {K : PySem.W.Frag} {cl : Str → Option Addr} {Ex : WX} {σ : St} {H H' : Hp} {E : Vn} {S : Sto} {τ : List Addr} {B B' : Hp} {α β : Type}
theorem SVrs.mono {τ' : List Addr} (e : Xt τ B τ' B') : ∀ {vs : List V} {xs : List SV}, SVrs K cl τ B vs xs → SVrs K cl τ' B' vs xs
  | _, _, .nil => .nil
  | _, _, .cons h r => .cons (h.mono e) (SVrs.mono e r)
theorem Post.mono {o : Out α} {G G' : α → Sto → List Addr → Hp → Hp → Prop} (h : Post K cl Ex σ E τ B o G) (f : ∀ x S' τ' B' H', Xt τ B τ' B' → Rl K cl σ H' E S' τ' B' → G x S' τ' B' H' → G' x S' τ' B' H') : Post K cl Ex σ E τ B o G' := by
  cases o with
  | ok x S' => exact fun H' τ' B' e r => f x S' τ' B' H' e r (h H' τ' B' e r)
  | exc x S' => exact h
  | bad => exact h
theorem Post.bind {o : Out α} {f : α → Sto → Out β} {G : β → Sto → List Addr → Hp → Hp → Prop} (h : Post K cl Ex σ E τ B (o.bind f) G) :
    Post K cl Ex σ E τ B o fun x S1 _ B1 _ => Post K cl Ex σ E τ B1 (f x S1) G := by
  cases o with
  | ok x S1 =>
    intro H1 τ1 B1 e1 r1
    show Post K cl Ex σ E τ B1 (f x S1) G
    have h : Post K cl Ex σ E τ B (f x S1) G := h
    cases q : f x S1 with
    | ok y S2 =>
      rw [q] at h
      exact fun H2 τ2 B2 e2 r2 => h H2 τ2 B2 ⟨e2.pre, e1.ex.trans e2.ex⟩ r2
    | exc x S2 =>
      rw [q] at h
      exact fun H2 τ2 B2 e2 r2 => h H2 τ2 B2 ⟨e2.pre, e1.ex.trans e2.ex⟩ r2
    | bad => rw [q] at h; exact h
  | exc x S1 => exact h
  | bad => exact h
/-- a longer store ahead -/
theorem Post.pre {B0 : Hp} {τ1 : List Addr} {o : Out α} {G : α → Sto → List Addr → Hp → Hp → Prop} (x : Xt τ B0 τ1 B) (h : Post K cl Ex σ E τ B o G) : Post K cl Ex σ E τ1 B o G := by
  have y : Xt τ B τ1 B := ⟨x.pre, Evl.Ex.refl _⟩
  cases o with
  | ok a S' => exact fun H' τ' B' e r => h H' τ' B' (y.trans e) r
  | exc a S' => exact fun H' τ' B' e r => h H' τ' B' (y.trans e) r
  | bad => exact h
/-- the way into a reading: the state at hand -/
theorem tE.of {m : M SV} {Q : VK} (R : Rl K cl σ H E S τ B) {G : SV → Sto → List Addr → Hp → Hp → Prop} (h : Post K cl Ex σ E τ B (m E S) G)
    (f : ∀ x S' τ' B' H' v, Xt τ B τ' B' → Rl K cl σ H' E S' τ' B' → SVr K cl τ' B' v x → G x S' τ' B' H' → Q v H') : tE K cl Ex m σ H Q :=
  ⟨E, S, τ, B, R, h.mono fun x S' τ' B' H' e r g v hv => f x S' τ' B' H' v e r hv g⟩
theorem tT.of {m : M Bool} {Q : Bool → Hp → Prop} (R : Rl K cl σ H E S τ B) {G : Bool → Sto → List Addr → Hp → Hp → Prop} (h : Post K cl Ex σ E τ B (m E S) G)
    (f : ∀ x S' τ' B' H', Xt τ B τ' B' → Rl K cl σ H' E S' τ' B' → G x S' τ' B' H' → Q x H') : tT K cl Ex m σ H Q :=
  ⟨E, S, τ, B, R, h.mono fun x S' τ' B' H' e r g => f x S' τ' B' H' e r g⟩
theorem tA.of {m : M (List SV)} {Q : List V → Hp → Prop} (R : Rl K cl σ H E S τ B) {G : List SV → Sto → List Addr → Hp → Hp → Prop} (h : Post K cl Ex σ E τ B (m E S) G)
    (f : ∀ x S' τ' B' H' vs, Xt τ B τ' B' → Rl K cl σ H' E S' τ' B' → SVrs K cl τ' B' vs x → G x S' τ' B' H' → Q vs H') : tA K cl Ex m σ H Q :=
  ⟨E, S, τ, B, R, h.mono fun x S' τ' B' H' e r g v hv => f x S' τ' B' H' v e r hv g⟩
end
theorem PE_imp {X : Cx} {e : Expr} {t t' : TE} (h : PE X e t) (f : ∀ σ H Q, t' σ H Q → t σ H Q) : PE X e t' := ⟨fun pins s σ H Q I q => h.run pins s σ H Q I (f σ H Q q)⟩
theorem PT_imp {X : Cx} {e : Expr} {t t' : TT} (h : PT X e t) (f : ∀ σ H Q, t' σ H Q → t σ H Q) : PT X e t' := ⟨fun pins s σ H Q I q => h.run pins s σ H Q I (f σ H Q q)⟩
theorem PW_imp {X : Cx} {e : Expr} {t t' : TT} (h : PW X e t) (f : ∀ σ H Q, t' σ H Q → t σ H Q) : PW X e t' := ⟨fun w pins s σ H Q I q => h.run w pins s σ H Q I (f σ H Q q)⟩
theorem PA_imp {X : Cx} {e : List Expr} {t t' : TA} (h : PA X e t) (f : ∀ σ H Q, t' σ H Q → t σ H Q) : PA X e t' := ⟨fun p pins s σ H Q I q => h.run p pins s σ H Q I (f σ H Q q)⟩
end Z

/-! Z1: expressions. -/
namespace Z
open PySem PySem.Spec L2
open PyProof.Rows hiding St
section
variable {X : Cx} {cl : Str → Option Addr} {Ex : WX}
abbrev SE (X : Cx) (cl : Str → Option Addr) (Ex : WX) (e : Expr) (m : M SV) : Prop := PE X e (tE X.K cl Ex m)
abbrev ST (X : Cx) (cl : Str → Option Addr) (Ex : WX) (e : Expr) (m : M Bool) : Prop := PT X e (tT X.K cl Ex m)
abbrev SA (X : Cx) (cl : Str → Option Addr) (Ex : WX) (es : List Expr) (m : M (List SV)) : Prop := PA X es (tA X.K cl Ex m)

/-! ### names, constants -/
def mVar (i : Nat) : M SV := fun E S => match E[i]? with
  | some (some x) => .ok x S
  | _ => .bad
theorem sv (i : Nat) {x : Str} {pos : Pos} (hN : X.N[i]? = some x := by rfl) (hv : Vis X.env.scope x := by first | exact Or.inl rfl | exact Or.inr (Or.inl rfl) | exact Or.inr (Or.inr rfl)) (hd : (x == ("__debug__" : Str)) = false := by decide)
    (hcd : (x == ("__classdict__" : Str)) = false := by decide) : SE X cl Ex (.Name x pos) (mVar i) := PE_imp (pe_var hN hv hd hcd) fun σ H Q ⟨E, S, τ, B, R, h⟩ => by
  unfold mVar at h
  cases e : E[i]? with
  | none => rw [e] at h; exact h.elim
  | some o =>
    cases o with
    | none => rw [e] at h; exact h.elim
    | some x =>
      rw [e] at h
      obtain ⟨v, h1, h2⟩ := R.sv i x e
      exact ⟨v, h1, h H τ B Xt.refl R v h2⟩
def mC (x : D) : M SV := fun _ S => .ok (.d x) S
theorem tC_of {v : V} {x : D} (h : ∀ B, DR X.K B v x) : ∀ σ H Q, tE X.K cl Ex (mC x) σ H Q → tC v σ H Q := fun σ H Q ⟨E, S, τ, B, R, q⟩ => q H τ B Xt.refl R v (h B)
theorem se_int {i : Int} {j pos} : SE X cl Ex (.Constant (.int i) j pos) (mC (.int i)) := PE_imp pe_int (tC_of fun _ => .int i)
theorem se_bl {b : Bool} {j pos} : SE X cl Ex (.Constant (.bool b) j pos) (mC (.bool b)) := PE_imp pe_bl (tC_of fun _ => .bl b)
theorem se_non {j pos} : SE X cl Ex (.Constant .none j pos) (mC .none) := PE_imp pe_non (tC_of fun _ => .non)
theorem se_str {x : Str} {j pos} : SE X cl Ex (.Constant (.str x) j pos) (mC (.str x)) := PE_imp pe_str (tC_of fun _ => .str x)
theorem se_glob {x : Str} {v : V} {d : D} {u : Value} {pos : Pos} (hg : Gl X x) (hm : X.mg x = some u) (r : RelV v u) (h : ∀ B, DR X.K B v d) (hd : (x == ("__debug__" : Str)) = false := by decide) : SE X cl Ex (.Name x pos) (mC d) :=
  PE_imp (pe_glob hg hm r hd) (tC_of h)

/-! ### what a value of the store reads as -/
def rd (S : Sto) : SV → Option D
  | .d x => some x
  | .r i => match S[i]? with
    | some (.lst xs) => some (.list xs)
    | some (.frz x) => some x
    | _ => none
  | .f _ => none
  | .s _ => none
/-- data whose own list need not be known -/
def DV (K : PySem.W.Frag) (B H : Hp) (v : V) (d : D) : Prop := DR K B v d ∨ ∃ a vs ds, v = .ref a ∧ d = .list ds ∧ H a = some (.lst vs) ∧ DRs K B vs ds
section
variable {K : PySem.W.Frag} {σ : St} {H H' : Hp} {E : Vn} {S : Sto} {τ : List Addr} {B B' : Hp} {v : V} {x : SV} {d : D}
theorem DV.dr (e : Xs B H) (h : DV K B H v d) : DR K H v d := by
  rcases h with h | ⟨a, vs, ds, rfl, rfl, h1, h2⟩
  · exact h.mono e
  · exact .lst h1 (h2.mono e)
theorem DV.lst {ds : List D} (e : Xs B H) (h : DV K B H v (.list ds)) : ∃ a vs, v = .ref a ∧ H a = some (.lst vs) ∧ DRs K B vs ds := by
  rcases h with h | ⟨a, vs, ds, rfl, q, h1, h2⟩
  · cases h with
    | lst h1 h2 => exact ⟨_, _, rfl, e _ _ h1, h2⟩
  · cases q
    exact ⟨a, vs, rfl, h1, h2⟩
theorem DV.tup {ds : List D} (e : Xs B H) (h : DV K B H v (.tuple ds)) : ∃ a vs, v = .ref a ∧ SqT K H a vs ∧ DRs K B vs ds := by
  rcases h with h | ⟨a, vs, ds, rfl, q, h1, h2⟩
  · cases h with
    | tup h1 h2 => exact ⟨_, _, rfl, Evl.ex_t e h1, h2⟩
  · cases q
theorem DV.tupB {ds : List D} (h : DV K B H v (.tuple ds)) : DR K B v (.tuple ds) := by
  rcases h with h | ⟨a, vs, ds, rfl, q, h1, h2⟩
  · exact h
  · cases q
theorem DV.int {i : Int} (h : DV K B H v (.int i)) : v = .int i := by
  rcases h with h | ⟨a, vs, ds, rfl, q, h1, h2⟩
  · cases h; rfl
  · cases q
theorem DV.bl {i : Bool} (h : DV K B H v (.bool i)) : v = .bl i := by
  rcases h with h | ⟨a, vs, ds, rfl, q, h1, h2⟩
  · cases h; rfl
  · cases q
theorem DV.str {i : Str} (h : DV K B H v (.str i)) : v = .str i := by
  rcases h with h | ⟨a, vs, ds, rfl, q, h1, h2⟩
  · cases h; rfl
  · cases q
theorem DV.non (h : DV K B H v .none) : v = .non := by
  rcases h with h | ⟨a, vs, ds, rfl, q, h1, h2⟩
  · cases h; rfl
  · cases q
theorem Rl.dv (R : Rl K cl σ H E S τ B) (h : SVr K cl τ B v x) (e : rd S x = some d) : DV K B H v d := by
  cases x with
  | d x =>
    cases e
    exact .inl h
  | f k => cases e
  | s _ => cases e
  | r i =>
    obtain ⟨a, h1, rfl⟩ := h
    unfold rd at e
    cases q : S[i]? with
    | none => simp only [q] at e; cases e
    | some o =>
      obtain ⟨b, k1, _, k2⟩ := R.ob i o q
      rw [h1] at k1
      cases k1
      simp only [q] at e
      cases o with
      | lst xs =>
        cases e
        obtain ⟨_, vs, k3, k4⟩ := k2
        exact .inr ⟨a, vs, xs, rfl, rfl, k3, k4⟩
      | frz z =>
        cases e
        exact .inl k2
      | ins c fs => cases e
end

/-! ### new values -/
inductive NV where
  | val (d : D) | lst (xs : List D)
def NVok (K : PySem.W.Frag) (B H : Hp) (Q : VK) : NV → Prop
  | .val d => ∀ v H' B', Grow H B H' B' → DR K B' v d → Q v H'
  | .lst xs => ∀ p vs, H p = none → DRs K B vs xs → Q (.ref p) (upd H p (.lst vs))
def NV.fin : NV → Sto → Out SV
  | .val d, S => .ok (.d d) S
  | .lst xs, S => .ok (.r S.length) (S ++ [.lst xs])
section
variable {K : PySem.W.Frag} {σ : St} {H H' H1 : Hp} {E : Vn} {S S1 : Sto} {τ τ1 : List Addr} {B B' B1 : Hp} {v : V} {x : SV} {d : D} {Q : VK}
theorem NVok.here {d : D} {v : V} (e : Xs B H) (h : NVok K B H Q (.val d)) (r : DR K B v d) : Q v H := h v H B (Grow.refl e) r
theorem NVok.tup {ds : List D} {p : Addr} {vs : List V} (e : Xs B H) (h : NVok K B H Q (.val (.tuple ds))) (hp : H p = none) (r : DRs K B vs ds) : Q (.ref p) (upd H p (.tup vs)) :=
  h _ _ _ (Grow.new e hp) (.tup (SqT.of upd_same) (r.mono (Evl.Ex.new (Evl.fresh_back e hp))))
/-- the end of a step: what was made on the way is let go, the new value stays -/
theorem fin_ok {nv : NV} (R : Rl K cl σ H E S τ B) (x : Xt τ B τ1 B1) (R1 : Rl K cl σ H1 E S1 τ1 B1)
    (h : Post K cl Ex σ E τ B1 (nv.fin (S1.take S.length)) fun x _ τ' B' H' => ∀ v, SVr K cl τ' B' v x → Q v H') : NVok K B1 H1 Q nv := by
  have R2 := R.back x R1
  have hl : (S1.take S.length).length = τ.length := R2.tl.symm
  cases nv with
  | val d =>
    intro v H' B' g r
    exact h H' τ B' ⟨⟨[], by simp⟩, g.b⟩ (R2.grow g) v r
  | lst xs =>
    intro p vs hp r
    have bp : B1 p = none := Evl.fresh_back R1.ex hp
    refine h (upd H1 p (.lst vs)) (τ ++ [p]) B1 ⟨⟨[p], rfl⟩, Evl.Ex.refl _⟩ (R2.lay hp ⟨bp, vs, upd_same, r⟩) (.ref p) ⟨p, ?_, rfl⟩
    rw [hl, List.getElem?_append_right (Nat.le_refl _)]
    simp
end
def outN (n : Nat) (o : Option NV) (S : Sto) : Out SV := match o with
  | some nv => nv.fin (S.take n)
  | none => .bad
/-- one operand; two; arguments; what comes is new data or a new list -/
def m1 (f : Sto → SV → Option NV) (ma : M SV) : M SV := fun E S => (ma E S).bind fun x S1 => outN S.length (f S1 x) S1
def m2 (f : Sto → SV → SV → Option NV) (ma mb : M SV) : M SV := fun E S => (ma E S).bind fun x S1 => (mb E S1).bind fun y S2 => outN S.length (f S2 x y) S2
def mB (f : Sto → List SV → Option NV) (ma : M (List SV)) : M SV := fun E S => (ma E S).bind fun xs S1 => outN S.length (f S1 xs) S1
theorem m1_ok {r : V → Hp → VK → Prop} {f : Sto → SV → Option NV} {ma : M SV}
    (hf : ∀ σ H E S τ B x nv v Q, Rl X.K cl σ H E S τ B → SVr X.K cl τ B v x → f S x = some nv → NVok X.K B H Q nv → r v H Q) (σ : St) (H : Hp) (Q : VK) (h : tE X.K cl Ex (m1 f ma) σ H Q) : tUn r (tE X.K cl Ex ma) σ H Q := by
  obtain ⟨E, S, τ, B, R, h⟩ := h
  refine tE.of R (Post.bind h) fun x S1 τ1 B1 H1 v e1 R1 hv h1 => ?_
  unfold outN at h1
  cases q : f S1 x with
  | none => rw [q] at h1; exact h1.elim
  | some nv =>
    rw [q] at h1
    exact hf _ _ _ _ _ _ _ _ _ _ R1 hv q (fin_ok R e1 R1 h1)
theorem m2_ok {r : R2} {f : Sto → SV → SV → Option NV} {ma mb : M SV}
    (hf : ∀ σ H E S τ B x y nv v w Q, Rl X.K cl σ H E S τ B → SVr X.K cl τ B v x → SVr X.K cl τ B w y → f S x y = some nv → NVok X.K B H Q nv → r v w H Q) (σ : St) (H : Hp) (Q : VK) (h : tE X.K cl Ex (m2 f ma mb) σ H Q) :
    tOp r (tE X.K cl Ex ma) (tE X.K cl Ex mb) σ H Q := by
  obtain ⟨E, S, τ, B, R, h⟩ := h
  refine tE.of R (Post.bind h) fun x S1 τ1 B1 H1 v e1 R1 hv h1 => ?_
  refine tE.of R1 ((Post.bind h1).pre e1) fun y S2 τ2 B2 H2 w e2 R2 hw h2 => ?_
  unfold outN at h2
  cases q : f S2 x y with
  | none => rw [q] at h2; exact h2.elim
  | some nv =>
    rw [q] at h2
    exact hf _ _ _ _ _ _ _ _ _ _ _ _ R2 (hv.mono e2) hw q (fin_ok R (e1.trans e2) R2 h2)
theorem mB_ok {r : List V → Hp → VK → Prop} {f : Sto → List SV → Option NV} {ma : M (List SV)}
    (hf : ∀ σ H E S τ B xs nv vs Q, Rl X.K cl σ H E S τ B → SVrs X.K cl τ B vs xs → f S xs = some nv → NVok X.K B H Q nv → r vs H Q) (σ : St) (H : Hp) (Q : VK) (h : tE X.K cl Ex (mB f ma) σ H Q) : tCB r (tA X.K cl Ex ma) σ H Q := by
  obtain ⟨E, S, τ, B, R, h⟩ := h
  refine tA.of R (Post.bind h) fun xs S1 τ1 B1 H1 vs e1 R1 hv h1 => ?_
  unfold outN at h1
  cases q : f S1 xs with
  | none => rw [q] at h1; exact h1.elim
  | some nv =>
    rw [q] at h1
    exact hf _ _ _ _ _ _ _ _ _ _ R1 hv q (fin_ok R e1 R1 h1)
/-- .. on data alone -/
def on1 (g : D → Option NV) (S : Sto) (x : SV) : Option NV := (rd S x).bind g
def on2 (g : D → D → Option NV) (S : Sto) (x y : SV) : Option NV := (rd S x).bind fun a => (rd S y).bind fun b => g a b
theorem on1_ok {r : V → Hp → VK → Prop} {g : D → Option NV} (hg : ∀ B H v a nv Q, Xs B H → DV X.K B H v a → g a = some nv → NVok X.K B H Q nv → r v H Q) :
    ∀ σ H E S τ B x nv v Q, Rl X.K cl σ H E S τ B → SVr X.K cl τ B v x → on1 g S x = some nv → NVok X.K B H Q nv → r v H Q := fun σ H E S τ B x nv v Q R hv e h => by
  unfold on1 at e
  cases q : rd S x with
  | none => rw [q] at e; cases e
  | some a =>
    rw [q] at e
    exact hg B H v a nv Q R.ex (R.dv hv q) e h
theorem on2_ok {r : R2} {g : D → D → Option NV} (hg : ∀ B H v w a b nv Q, Xs B H → DV X.K B H v a → DV X.K B H w b → g a b = some nv → NVok X.K B H Q nv → r v w H Q) :
    ∀ σ H E S τ B x y nv v w Q, Rl X.K cl σ H E S τ B → SVr X.K cl τ B v x → SVr X.K cl τ B w y → on2 g S x y = some nv → NVok X.K B H Q nv → r v w H Q := fun σ H E S τ B x y nv v w Q R hv hw e h => by
  unfold on2 at e
  cases q : rd S x with
  | none => rw [q] at e; cases e
  | some a =>
    rw [q] at e
    cases q2 : rd S y with
    | none => simp [q2] at e
    | some b =>
      simp only [q2, Option.bind_some] at e
      exact hg B H v w a b nv Q R.ex (R.dv hv q) (R.dv hw q2) e h
theorem on2E {g : D → D → Option NV} {S : Sto} {x y : SV} {a b : D} (h1 : rd S x = some a) (h2 : rd S y = some b) : on2 g S x y = g a b := by
  unfold on2
  rw [h1, Option.bind_some, h2, Option.bind_some]
theorem on1E {g : D → Option NV} {S : Sto} {x : SV} {a : D} (h1 : rd S x = some a) : on1 g S x = g a := by
  unfold on1
  rw [h1, Option.bind_some]

/-! ### arithmetic -/
def okLen (n : Nat) (nv : NV) : Option NV := if n ≤ sizeLine then some nv else none
def gAdd : D → D → Option NV
  | .int i, .int j => some (.val (.int (i + j)))
  | .str x, .str y => okLen (x.length + y.length) (.val (.str (x ++ y)))
  | .tuple xs, .tuple ys => okLen (xs.length + ys.length) (.val (.tuple (xs ++ ys)))
  | .list xs, .list ys => okLen (xs.length + ys.length) (.lst (xs ++ ys))
  | _, _ => none
def gSub : D → D → Option NV
  | .int i, .int j => some (.val (.int (i - j)))
  | _, _ => none
instance (i j : Int) : Decidable (CMul i j) := by unfold CMul; exact inferInstance
instance (i j : Int) : Decidable (CPow i j) := by unfold CPow; exact inferInstance
instance (i j : Int) : Decidable (CDiv i j) := by unfold CDiv; exact inferInstance
def gMul : D → D → Option NV
  | .int i, .int j => if CMul i j then some (.val (.int (i * j))) else none
  | .list xs, .int k => if -(2 ^ 63) ≤ k ∧ k < 2 ^ 63 then okLen (xs.length * k.toNat) (.lst (List.replicate k.toNat xs).flatten) else none
  | _, _ => none
def gDiv : D → D → Option NV
  | .int i, .int j => if CDiv i j then some (.val (.int (i / j))) else none
  | _, _ => none
def gMod : D → D → Option NV
  | .int i, .int j => if 0 < j then some (.val (.int (i % j))) else none
  | _, _ => none
def gPow : D → D → Option NV
  | .int i, .int j => if CPow i j then some (.val (.int (i ^ j.toNat))) else none
  | _, _ => none
theorem okLen_some {n : Nat} {nv nv' : NV} (h : okLen n nv = some nv') : n ≤ sizeLine ∧ nv = nv' := by
  unfold okLen at h
  split at h
  · exact ⟨by assumption, Option.some.inj h⟩
  · cases h
variable {a b : Expr} {pos : Pos} {ma mb : M SV}
theorem se_add (ha : SE X cl Ex a ma) (hb : SE X cl Ex b mb) : SE X cl Ex (.BinOp a .Add b pos) (m2 (on2 gAdd) ma mb) :=
  PE_imp (pe_op (op_add.or (op_add_str.or (op_catA.or op_cat))) ha hb) (m2_ok (on2_ok fun B H v w x y nv Q ex hv hw e h => by
    unfold gAdd at e
    split at e
    · cases hv.int; cases hw.int; cases e
      exact .inl ⟨_, _, rfl, rfl, h.here ex (.int _)⟩
    · obtain ⟨hl, rfl⟩ := okLen_some e
      cases hv.str; cases hw.str
      exact .inr (.inl ⟨_, _, rfl, rfl, hl, h.here ex (.str _)⟩)
    · obtain ⟨hl, rfl⟩ := okLen_some e
      obtain ⟨p, vs, rfl, h1, h2⟩ := hv.tup ex
      obtain ⟨q, ws, rfl, k1, k2⟩ := hw.tup ex
      refine .inr (.inr (.inl ⟨p, q, vs, ws, rfl, rfl, h1, k1, by rw [h2.length, k2.length]; exact hl, fun e0 => ?_, fun _ e0 => ?_, fun _ _ u hu => h.tup ex hu (h2.app k2)⟩))
      · subst e0
        cases h2
        exact h.here ex hw.tupB
      · subst e0
        cases k2
        rw [List.append_nil] at h
        exact h.here ex hv.tupB
    · obtain ⟨hl, rfl⟩ := okLen_some e
      obtain ⟨p, vs, rfl, h1, h2⟩ := hv.lst ex
      obtain ⟨q, ws, rfl, k1, k2⟩ := hw.lst ex
      exact .inr (.inr (.inr ⟨p, q, vs, ws, rfl, rfl, h1, k1, by rw [h2.length, k2.length]; exact hl, fun u hu => h u _ hu (h2.app k2)⟩))
    · cases e))
theorem se_sub (ha : SE X cl Ex a ma) (hb : SE X cl Ex b mb) : SE X cl Ex (.BinOp a .Sub b pos) (m2 (on2 gSub) ma mb) :=
  PE_imp (pe_op op_sub ha hb) (m2_ok (on2_ok fun B H v w x y nv Q ex hv hw e h => by
    unfold gSub at e
    split at e
    · cases hv.int; cases hw.int; cases e
      exact ⟨_, _, rfl, rfl, h.here ex (.int _)⟩
    · cases e))
theorem se_mul (ha : SE X cl Ex a ma) (hb : SE X cl Ex b mb) : SE X cl Ex (.BinOp a .Mult b pos) (m2 (on2 gMul) ma mb) :=
  PE_imp (pe_op (op_mul.or op_rep) ha hb) (m2_ok (on2_ok fun B H v w x y nv Q ex hv hw e h => by
    unfold gMul at e
    split at e
    · split at e
      · cases hv.int; cases hw.int; cases e
        exact .inl ⟨_, _, rfl, rfl, by assumption, h.here ex (.int _)⟩
      · cases e
    · rename_i xs k
      split at e
      · rename_i hk
        obtain ⟨hl, rfl⟩ := okLen_some e
        obtain ⟨p, vs, rfl, h1, h2⟩ := hv.lst ex
        cases hw.int
        refine .inr ⟨p, _, vs, rfl, rfl, h1, hk.1, hk.2, by rw [h2.length]; exact hl, fun u hu => h u _ hu ?_⟩
        clear hl h h1
        induction k.toNat with
        | zero => exact .nil
        | succ n ih => rw [List.replicate_succ, List.replicate_succ, List.flatten_cons, List.flatten_cons]; exact h2.app ih
      · cases e
    · cases e))
theorem se_div (ha : SE X cl Ex a ma) (hb : SE X cl Ex b mb) : SE X cl Ex (.BinOp a .FloorDiv b pos) (m2 (on2 gDiv) ma mb) :=
  PE_imp (pe_op op_fdiv ha hb) (m2_ok (on2_ok fun B H v w x y nv Q ex hv hw e h => by
    unfold gDiv at e
    split at e
    · split at e
      · cases hv.int; cases hw.int; cases e
        exact ⟨_, _, rfl, rfl, by assumption, h.here ex (.int _)⟩
      · cases e
    · cases e))
theorem se_mod (ha : SE X cl Ex a ma) (hb : SE X cl Ex b mb) : SE X cl Ex (.BinOp a .Mod b pos) (m2 (on2 gMod) ma mb) :=
  PE_imp (pe_op op_mod ha hb) (m2_ok (on2_ok fun B H v w x y nv Q ex hv hw e h => by
    unfold gMod at e
    split at e
    · split at e
      · cases hv.int; cases hw.int; cases e
        exact ⟨_, _, rfl, rfl, by assumption, h.here ex (.int _)⟩
      · cases e
    · cases e))
theorem se_pow (ha : SE X cl Ex a ma) (hb : SE X cl Ex b mb) : SE X cl Ex (.BinOp a .Pow b pos) (m2 (on2 gPow) ma mb) :=
  PE_imp (pe_op op_pow ha hb) (m2_ok (on2_ok fun B H v w x y nv Q ex hv hw e h => by
    unfold gPow at e
    split at e
    · split at e
      · cases hv.int; cases hw.int; cases e
        exact ⟨_, _, rfl, rfl, by assumption, h.here ex (.int _)⟩
      · cases e
    · cases e))
def gNeg : D → Option NV
  | .int i => some (.val (.int (-i)))
  | _ => none
theorem se_neg (ha : SE X cl Ex a ma) : SE X cl Ex (.UnaryOp .USub a pos) (m1 (on1 gNeg) ma) :=
  PE_imp (pe_un un_neg ha) (m1_ok (on1_ok fun B H v x nv Q ex hv e h => by
    unfold gNeg at e
    split at e
    · cases hv.int; cases e
      exact ⟨_, rfl, h.here ex (.int _)⟩
    · cases e))

/-! ### comparisons: a rule each on two data, its answer a bool -/
structure CmpD (X : Cx) (op : CmpOp) (g : D → D → Option Bool) (r : R2) : Prop where
  op : OpR X (compareOp op) r
  ok : ∀ B H v w x y b Q, Xs B H → DV X.K B H v x → DV X.K B H w y → g x y = some b → Q (.bl b) H → r v w H Q
def bV (g : D → D → Option Bool) (x y : D) : Option NV := (g x y).map fun b => .val (.bool b)
def nomk (op : CmpOp) (b : Expr) : Prop := behindInMarks op b = false
theorem se_cmp {op : CmpOp} {g : D → D → Option Bool} {r : R2} (c : CmpD X op g r) (ha : SE X cl Ex a ma) (hb : SE X cl Ex b mb) (hm : behindInMarks op b = false) : SE X cl Ex (.Compare a [op] [b] pos) (m2 (on2 (bV g)) ma mb) :=
  PE_imp (pe_cmpR c.op ha hb hm) (m2_ok (on2_ok fun B H v w x y nv Q ex hv hw e h => by
    unfold bV at e
    cases q : g x y with
    | none => rw [q] at e; cases e
    | some k =>
      rw [q] at e
      cases e
      exact c.ok B H v w x y k Q ex hv hw q (h.here ex (.bl _))))
def okEq (x y : D) : Bool := SeqAt.shaped x && SeqAt.shaped y
def gEq (x y : D) : Option Bool := if okEq x y then some (PyData.eqv x y) else none
def gNe (x y : D) : Option Bool := if okEq x y then some (!PyData.eqv x y) else none
theorem cmp_eq (hu : X.A.units + 64 < cLine) : CmpD X .Eq gEq (rEqD X.K) := ⟨op_eqD hu, fun B H v w x y b Q ex hv hw e h => by
  unfold gEq at e
  split at e
  · rename_i q
    cases e
    obtain ⟨q1, q2⟩ := (Bool.and_eq_true _ _).mp q
    exact ⟨x, y, (hv.dr ex).dp, (hw.dr ex).dp, q1, q2, h⟩
  · cases e⟩
theorem cmp_ne (hu : X.A.units + 64 < cLine) : CmpD X .NotEq gNe (rNeD X.K) := ⟨op_neD hu, fun B H v w x y b Q ex hv hw e h => by
  unfold gNe at e
  split at e
  · rename_i q
    cases e
    obtain ⟨q1, q2⟩ := (Bool.and_eq_true _ _).mp q
    exact ⟨x, y, (hv.dr ex).dp, (hw.dr ex).dp, q1, q2, h⟩
  · cases e⟩
def isNon : D → Bool
  | .none => true
  | _ => false
def gIsN (x y : D) : Option Bool := match y with
  | .none => some (isNon x)
  | .bool b => match x with | .bool a => some (decide (a = b)) | _ => none
  | _ => none
def gNotN (x y : D) : Option Bool := (gIsN x y).map (!·)
theorem DV.non_iff {K : PySem.W.Frag} {B H : Hp} {v : V} {d : D} (h : DV K B H v d) : decide (v = .non) = isNon d := by
  rcases h with h | ⟨a, vs, ds, rfl, rfl, h1, h2⟩
  · cases h <;> rfl
  · rfl
theorem cmp_is : CmpD X .Is gIsN (fun x y H Q => (y = .non ∧ Q (.bl (decide (x = .non))) H) ∨ rIsB x y H Q) := ⟨op_isN.or op_isBl, fun B H v w x y b Q ex hv hw e h => by
  unfold gIsN at e
  split at e
  · cases e
    cases hw.non
    refine .inl ⟨rfl, ?_⟩
    rw [hv.non_iff]
    exact h
  · split at e
    · cases e
      cases hv.bl; cases hw.bl
      exact .inr ⟨_, _, rfl, rfl, h⟩
    · cases e
  · cases e⟩
theorem cmp_isnot : CmpD X .IsNot gNotN (fun x y H Q => (y = .non ∧ Q (.bl (!decide (x = .non))) H) ∨ rNotB x y H Q) := ⟨op_notN.or op_notBl, fun B H v w x y b Q ex hv hw e h => by
  unfold gNotN gIsN at e
  split at e
  · cases e
    cases hw.non
    refine .inl ⟨rfl, ?_⟩
    rw [hv.non_iff]
    exact h
  · split at e
    · cases e
      cases hv.bl; cases hw.bl
      exact .inr ⟨_, _, rfl, rfl, h⟩
    · cases e
  · cases e⟩
end
end Z

/-! Z2: the order of data; in; chains; tests. -/
namespace Z
open PySem PySem.Spec L2
open PyProof.Rows hiding St

def ordI (op : CmpOp) (i j : Int) : Bool := match op with
  | .Lt => decide (i < j) | .LtE => decide (i ≤ j) | .Gt => decide (j < i) | .GtE => decide (j ≤ i) | _ => false
def ordS (op : CmpOp) (x y : Str) : Bool := match op with
  | .Lt => decide (x.cps.toList < y.cps.toList) | .LtE => !decide (y.cps.toList < x.cps.toList) | .Gt => decide (y.cps.toList < x.cps.toList) | .GtE => !decide (x.cps.toList < y.cps.toList) | _ => false
def IsOrd (op : CmpOp) : Prop := op = .Lt ∨ op = .LtE ∨ op = .Gt ∨ op = .GtE
mutual
def ordD (op : CmpOp) : D → D → Option Bool
  | .int i, .int j => some (ordI op i j)
  | .str x, .str y => some (ordS op x y)
  | .tuple xs, .tuple ys => ordDs op xs ys
  | _, _ => none
def ordDs (op : CmpOp) : List D → List D → Option Bool
  | x :: xs, y :: ys => (ordDs op xs ys).bind fun b => if PyData.eqv x y then some b else ordD op x y
  | xs, ys => some (ordI op xs.length ys.length)
end
def gOrd (op : CmpOp) (x y : D) : Option Bool := if okEq x y then ordD op x y else none
section
theorem ordI_shift {op : CmpOp} (i j k : Int) : ordI op (i + k) (j + k) = ordI op i j := by
  unfold ordI
  cases op <;> first | rfl | (apply decide_eq_decide.mpr; omega)
theorem rc_int {op : CmpOp} (ho : IsOrd op) {A : Around} {s : Shared} (a b : Int) (t u : Tok) : Ob.RcOp op A s (.int a t) (.int b u) (ordI op a b) := by
  rcases ho with rfl | rfl | rfl | rfl
  · exact Ob.RcOp.lt_int a b t u
  · exact Ob.RcOp.le_int a b t u
  · exact Ob.RcOp.gt_int a b t u
  · exact Ob.RcOp.ge_int a b t u
theorem rc_str {op : CmpOp} (ho : IsOrd op) {A : Around} {s : Shared} (a b : Str) (t u : Tok) : Ob.RcOp op A s (.str a t) (.str b u) (ordS op a b) := by
  rcases ho with rfl | rfl | rfl | rfl
  · exact fun _ _ _ _ h => PyProof.Rows.lt_str h
  · exact fun _ _ _ _ h => PySem.P.le_str h
  · exact fun _ _ _ _ h => PySem.P.gt_str h
  · exact fun _ _ _ _ h => PySem.P.ge_str h
theorem rc_tup {op : CmpOp} (ho : IsOrd op) {A : Around} {s : Shared} {l b : Addr} {items items2 : Array Value} {e r : Nat → Bool} (hl : s.heap.IsTuple l items) (hb : s.heap.IsTuple b items2) (hu : A.units < cLine)
    (he : ∀ j (h1 : j < items.size) (h2 : j < items2.size), SeqAt.EqAt A.in1 s items[j] items2[j] (e j))
    (hr : ∀ j (h1 : j < items.size) (h2 : j < items2.size), e j = false → Ob.RcOp op A.in1 s items[j] items2[j] (r j)) :
    Ob.RcOp op A s (.ref l) (.ref b) (Ob.lexAt e r (ordI op items.size items2.size) 0 (min items.size items2.size)) := by
  have z : ordI op items.size items2.size = (match op with | .Lt => decide (items.size < items2.size) | .LtE => decide (items.size ≤ items2.size) | .Gt => decide (items2.size < items.size) | .GtE => decide (items2.size ≤ items.size) | _ => false) := by
    unfold ordI
    rcases ho with rfl | rfl | rfl | rfl <;> (apply decide_eq_decide.mpr; omega)
  rw [z]
  rcases ho with rfl | rfl | rfl | rfl
  · exact Ob.RcOp.tuples_lt hl hb hu he hr
  · exact Ob.RcOp.tuples_le hl hb hu he hr
  · exact Ob.RcOp.tuples_gt hl hb hu he hr
  · exact Ob.RcOp.tuples_ge hl hb hu he hr
def eAt (xs ys : List D) (j : Nat) : Bool := PyData.eqv (xs.getD j .none) (ys.getD j .none)
def rAt (op : CmpOp) (xs ys : List D) (j : Nat) : Bool := (ordD op (xs.getD j .none) (ys.getD j .none)).getD false
theorem lex_ord {op : CmpOp} {xs0 ys0 : List D} : ∀ (k i : Nat) (b : Bool), k = min (xs0.length - i) (ys0.length - i) → i ≤ xs0.length → i ≤ ys0.length → ordDs op (xs0.drop i) (ys0.drop i) = some b →
    Ob.lexAt (eAt xs0 ys0) (rAt op xs0 ys0) (ordI op xs0.length ys0.length) i k = b
  | 0, i, b, hk, h1, h2, h => by
    rw [Ob.lexAt_zero]
    have sh : ordI op xs0.length ys0.length = ordI op (xs0.drop i).length (ys0.drop i).length := by
      have e1 : (xs0.length : Int) = ((xs0.drop i).length : Int) + i := by rw [List.length_drop]; omega
      have e2 : (ys0.length : Int) = ((ys0.drop i).length : Int) + i := by rw [List.length_drop]; omega
      rw [e1, e2, ordI_shift]
    rw [sh]
    have e0 : xs0.drop i = [] ∨ ys0.drop i = [] := by
      by_cases z : xs0.length - i = 0
      · exact .inl (List.eq_nil_of_length_eq_zero (by rw [List.length_drop]; exact z))
      · exact .inr (List.eq_nil_of_length_eq_zero (by rw [List.length_drop]; omega))
    rcases e0 with e0 | e0
    · rw [e0] at h ⊢
      unfold ordDs at h
      exact Option.some.inj h
    · rw [e0] at h ⊢
      unfold ordDs at h
      cases q : xs0.drop i with
      | nil => rw [q] at h; exact Option.some.inj h
      | cons x xs => rw [q] at h; exact Option.some.inj h
  | k + 1, i, b, hk, h1, h2, h => by
    have l1 : i < xs0.length := by omega
    have l2 : i < ys0.length := by omega
    rw [Ob.lexAt_succ]
    rw [List.drop_eq_getElem_cons l1, List.drop_eq_getElem_cons l2] at h
    rw [ordDs] at h
    have g1 : xs0.getD i .none = xs0[i] := by rw [List.getD_eq_getElem?_getD, List.getElem?_eq_getElem l1]; rfl
    have g2 : ys0.getD i .none = ys0[i] := by rw [List.getD_eq_getElem?_getD, List.getElem?_eq_getElem l2]; rfl
    have ee : eAt xs0 ys0 i = PyData.eqv xs0[i] ys0[i] := by unfold eAt; rw [g1, g2]
    cases q : ordDs op (xs0.drop (i + 1)) (ys0.drop (i + 1)) with
    | none => rw [q] at h; cases h
    | some b' =>
      rw [q, Option.bind_some] at h
      rw [ee]
      by_cases z : PyData.eqv xs0[i] ys0[i] = true
      · rw [if_pos z] at h ⊢
        cases h
        exact lex_ord k (i + 1) b (by omega) (by omega) (by omega) q
      · rw [if_neg z] at h ⊢
        unfold rAt
        rw [g1, g2, h]
        rfl
theorem ords_at {op : CmpOp} : ∀ {xs ys : List D} {b : Bool} {j : Nat} {x y : D}, ordDs op xs ys = some b → xs[j]? = some x → ys[j]? = some y → PyData.eqv x y = false → ∃ c, ordD op x y = some c
  | [], _, _, _, _, _, _, h1, _, _ => by simp at h1
  | _ :: _, [], _, _, _, _, _, _, h2, _ => by simp at h2
  | x :: xs, y :: ys, b, 0, _, _, h, h1, h2, hn => by
    simp at h1 h2
    subst h1 h2
    rw [ordDs] at h
    cases q : ordDs op xs ys with
    | none => rw [q] at h; cases h
    | some b' =>
      rw [q, Option.bind_some, hn] at h
      exact ⟨b, h⟩
  | x :: xs, y :: ys, b, j + 1, _, _, h, h1, h2, hn => by
    rw [ordDs] at h
    cases q : ordDs op xs ys with
    | none => rw [q] at h; cases h
    | some b' => exact ords_at q (by simpa using h1) (by simpa using h2) hn
theorem lay_mem : ∀ {xs : List D} {x : D}, PyData.canLayAll0 xs = true → x ∈ xs → x.canLay0 = true
  | y :: ys, x, h, hx => by
    rw [PyData.canLayAll0] at h
    obtain ⟨h1, h2⟩ := (Bool.and_eq_true _ _).mp h
    rcases List.mem_cons.mp hx with rfl | hx
    · exact h1
    · exact lay_mem h2 hx
theorem depth_mem : ∀ {xs : List D} {x : D}, x ∈ xs → x.depth ≤ PyData.depthAll xs
  | y :: ys, x, hx => by
    rw [PyData.depthAll]
    rcases List.mem_cons.mp hx with rfl | hx
    · exact Nat.le_max_left _ _
    · exact Nat.le_trans (depth_mem hx) (Nat.le_max_right _ _)
end
section
variable {X : Cx} {pins : List (Addr × Obj)} {σ : St} {H : Hp} {s : Shared}
theorem ordD_some {op : CmpOp} {x y : D} {b : Bool} (h : ordD op x y = some b) : (∃ i j, x = .int i ∧ y = .int j ∧ b = ordI op i j) ∨ (∃ i j, x = .str i ∧ y = .str j ∧ b = ordS op i j) ∨ ∃ xs ys, x = .tuple xs ∧ y = .tuple ys ∧ ordDs op xs ys = some b := by
  unfold ordD at h
  split at h
  · cases h; exact .inl ⟨_, _, rfl, rfl, rfl⟩
  · cases h; exact .inr (.inl ⟨_, _, rfl, rfl, rfl⟩)
  · exact .inr (.inr ⟨_, _, rfl, rfl, h⟩)
  · cases h
theorem ord_run {op : CmpOp} (ho : IsOrd op) (I : Inv X pins σ H s) : ∀ (n : Nat) (x y : D) (A : Around) (v w : V) (u u' : Value) (b : Bool), x.depth ≤ n → DR X.K H v x → DR X.K H w y → RelV v u → RelV w u' → ordD op x y = some b → x.canLay0 = true → y.canLay0 = true →
    A.units + n < cLine → Ob.RcOp op A s u u' b := by
  intro n
  induction n with
  | zero =>
    intro x y A v w u u' b hd hv hw rv rw_ h _ _ _
    rcases ordD_some h with ⟨i, j, rfl, rfl, rfl⟩ | ⟨i, j, rfl, rfl, rfl⟩ | ⟨xs, ys, rfl, rfl, _⟩
    · cases hv; cases hw; obtain ⟨t, rfl⟩ := rv; obtain ⟨t', rfl⟩ := rw_; exact rc_int ho _ _ _ _
    · cases hv; cases hw; obtain ⟨t, rfl⟩ := rv; obtain ⟨t', rfl⟩ := rw_; exact rc_str ho _ _ _ _
    · rw [PyData.depth] at hd; omega
  | succ n ih =>
    intro x y A v w u u' b hd hv hw rv rw_ h l1 l2 hu
    rcases ordD_some h with ⟨i, j, rfl, rfl, rfl⟩ | ⟨i, j, rfl, rfl, rfl⟩ | ⟨xs, ys, rfl, rfl, h2⟩
    · cases hv; cases hw; obtain ⟨t, rfl⟩ := rv; obtain ⟨t', rfl⟩ := rw_; exact rc_int ho _ _ _ _
    · cases hv; cases hw; obtain ⟨t, rfl⟩ := rv; obtain ⟨t', rfl⟩ := rw_; exact rc_str ho _ _ _ _
    clear h
    have h := h2
    clear h2
    cases hv with
    | tup hs hr =>
    cases hw with
    | tup ks kr =>
    rename_i a vs a' ws
    cases rv
    cases rw_
    obtain ⟨its, r1, p1, _⟩ := I.tuple hs
    obtain ⟨its2, r2, p2, _⟩ := I.tuple ks
    have e1 : its.toArray.size = xs.length := by rw [List.size_toArray, ← r1.length]; exact hr.length
    have e2 : its2.toArray.size = ys.length := by rw [List.size_toArray, ← r2.length]; exact kr.length
    have l1' : PyData.canLayAll0 xs = true := by rw [PyData.canLay0] at l1; exact l1
    have l2' : PyData.canLayAll0 ys = true := by rw [PyData.canLay0] at l2; exact l2
    have hd' : PyData.depthAll xs ≤ n := by rw [PyData.depth] at hd; omega
    have in1u : A.in1.units = A.units + 1 := rfl
    have at1 : ∀ j (h1 : j < its.toArray.size), ∃ x v, xs[j]? = some x ∧ xs.getD j .none = x ∧ x ∈ xs ∧ DR X.K H v x ∧ RelV v its.toArray[j] := fun j h1 => by
      have hj : j < xs.length := by rw [← e1]; exact h1
      have ex : xs[j]? = some xs[j] := List.getElem?_eq_getElem hj
      obtain ⟨v, k1, k2⟩ := hr.get ex
      obtain ⟨u, k3, k4⟩ := r1.get k1
      refine ⟨xs[j], v, ex, ?_, List.getElem_mem hj, k2, ?_⟩
      · rw [List.getD_eq_getElem?_getD, ex]; rfl
      · have hj2 : j < its.length := by simpa using h1
        rw [List.getElem?_eq_getElem hj2] at k3
        have : its.toArray[j] = u := by simpa using Option.some.inj k3
        rw [this]; exact k4
    have at2 : ∀ j (h1 : j < its2.toArray.size), ∃ x v, ys[j]? = some x ∧ ys.getD j .none = x ∧ x ∈ ys ∧ DR X.K H v x ∧ RelV v its2.toArray[j] := fun j h1 => by
      have hj : j < ys.length := by rw [← e2]; exact h1
      have ex : ys[j]? = some ys[j] := List.getElem?_eq_getElem hj
      obtain ⟨v, k1, k2⟩ := kr.get ex
      obtain ⟨u, k3, k4⟩ := r2.get k1
      refine ⟨ys[j], v, ex, ?_, List.getElem_mem hj, k2, ?_⟩
      · rw [List.getD_eq_getElem?_getD, ex]; rfl
      · have hj2 : j < its2.length := by simpa using h1
        rw [List.getElem?_eq_getElem hj2] at k3
        have : its2.toArray[j] = u := by simpa using Option.some.inj k3
        rw [this]; exact k4
    have R := rc_tup ho (A := A) (s := s) (e := eAt xs ys) (r := rAt op xs ys) p1 p2 (by omega) (fun j h1 h2 => by
      obtain ⟨x, v, x1, x2, x3, x4, x5⟩ := at1 j h1
      obtain ⟨y, w, y1, y2, y3, y4, y5⟩ := at2 j h2
      unfold eAt
      rw [x2, y2]
      obtain ⟨as, q1⟩ := Dp.reads I x v _ x4.dp x5
      obtain ⟨bs, q2⟩ := Dp.reads I y w _ y4.dp y5
      have dm := depth_mem x3
      exact SeqAt.eqAt_reads x y _ s _ _ as bs q1 q2 (lay_mem l1' x3) (lay_mem l2' y3) (by rw [in1u]; omega)) (fun j h1 h2 he => by
      obtain ⟨x, v, x1, x2, x3, x4, x5⟩ := at1 j h1
      obtain ⟨y, w, y1, y2, y3, y4, y5⟩ := at2 j h2
      unfold eAt at he
      rw [x2, y2] at he
      obtain ⟨c, hc⟩ := ords_at h x1 y1 he
      unfold rAt
      rw [x2, y2, hc]
      have dm := depth_mem x3
      exact ih x y A.in1 v w _ _ c (by omega) x4 y4 x5 y5 hc (lay_mem l1' x3) (lay_mem l2' y3) (by rw [in1u]; omega))
    rw [e1, e2] at R
    rw [lex_ord (min xs.length ys.length) 0 b (by simp) (Nat.zero_le _) (Nat.zero_le _) (by simpa using h)] at R
    exact R
def rOrd (K : PySem.W.Frag) (op : CmpOp) : R2 := fun x y H Q => ∃ d e b, DR K H x d ∧ DR K H y e ∧ okEq d e = true ∧ ordD op d e = some b ∧ Q (.bl b) H
theorem op_ord {op : CmpOp} (ho : IsOrd op) (hu : X.A.units + 64 < cLine) : OpR X (compareOp op) (rOrd X.K op) := by
  intro pins s σ H x y v u Q I rx ry h
  obtain ⟨d, e, b, hd, he, ok, ho2, q⟩ := h
  obtain ⟨s1, s2⟩ := (Bool.and_eq_true _ _).mp ok
  obtain ⟨q1, q2⟩ := (Bool.and_eq_true _ _).mp s1
  have R := ord_run ho I 64 d e X.A x y v u b (of_decide_eq_true q2) hd he rx ry ho2 q1 (SeqAt.canLay_of_shaped s2) hu
  have z : compareOp op v u = richCompare op v u := by rcases ho with rfl | rfl | rfl | rfl <;> rfl
  rw [z]
  exact R X.prog X.w X.xe (EP X pins σ Q) ⟨.bl _, H, I, rfl, q⟩
theorem cmp_ord {op : CmpOp} (ho : IsOrd op) (hu : X.A.units + 64 < cLine) : CmpD X op (gOrd op) (rOrd X.K op) := ⟨op_ord ho hu, fun B H v w x y b Q ex hv hw e h => by
  unfold gOrd at e
  split at e
  · exact ⟨x, y, b, hv.dr ex, hw.dr ex, by assumption, e, h⟩
  · cases e⟩
end
end Z

/-! Z3: freezing, in, chains, truth, and or not, displays, items, slices, built-ins. -/
namespace Z
open PySem PySem.Spec L2
open PyProof.Rows hiding St
section
variable {K : PySem.W.Frag} {cl : Str → Option Addr} {σ : St} {H H' : Hp} {E : Vn} {S : Sto} {τ : List Addr} {B B' : Hp}
theorem get_inj {τ : List Addr} (nd : τ.Nodup) {i j : Nat} {a : Addr} (h1 : τ[i]? = some a) (h2 : τ[j]? = some a) : i = j := by
  obtain ⟨k1, e1⟩ := List.getElem?_eq_some_iff.mp h1
  obtain ⟨k2, e2⟩ := List.getElem?_eq_some_iff.mp h2
  exact (List.getElem_inj nd).mp (e1.trans e2.symm)
theorem Rl.freeze {i : Nat} {xs : List D} {a : Addr} (R : Rl K cl σ H E S τ B) (hi : S[i]? = some (.lst xs)) (ha : τ[i]? = some a) :
    ∃ vs, B a = none ∧ DRs K B vs xs ∧ H a = some (.lst vs) ∧ Rl K cl σ H E (S.set i (.frz (.list xs))) τ (upd B a (.lst vs)) := by
  obtain ⟨a', h1, hu, h2, vs, h3, h4⟩ := R.ob i _ hi
  rw [ha] at h1
  cases h1
  have ex : Xs B (upd B a (.lst vs)) := Evl.Ex.new h2
  refine ⟨vs, h2, h4, h3, fun b u q => ?_, by rw [List.length_set]; exact R.tl, R.nd, fun j o q => ?_, R.sl, fun j x q => ?_⟩
  · by_cases z : b = a
    · subst z
      rw [upd_same] at q
      cases q
      exact h3
    · rw [upd_ne z] at q
      exact R.ex b u q
  · by_cases z : j = i
    · subst z
      have hl := (List.getElem?_eq_some_iff.mp hi).1
      rw [List.getElem?_set_self hl] at q
      cases q
      exact ⟨a, ha, hu, .lst upd_same (h4.mono ex)⟩
    · rw [List.getElem?_set_ne (Ne.symm z)] at q
      obtain ⟨b, k1, k2, k3⟩ := R.ob j o q
      have ne : b ≠ a := fun e => z (get_inj R.nd (e ▸ k1) ha)
      refine ⟨b, k1, k2, ?_⟩
      cases o with
      | lst ys =>
        obtain ⟨m1, ws, m2, m3⟩ := k3
        exact ⟨by rw [upd_ne ne]; exact m1, ws, m2, m3.mono ex⟩
      | frz d => exact DR.mono ex k3
      | ins c fs =>
        obtain ⟨m1, C, dx, ws, m2, m3, m4⟩ := k3
        exact ⟨by rw [upd_ne ne]; exact m1, C, dx, ws, m2, m3, m4.mono ex⟩
  · obtain ⟨v, h1, h2⟩ := R.sv j x q
    exact ⟨v, h1, h2.mono ⟨⟨[], by simp⟩, ex⟩⟩
end
section
variable {X : Cx} {cl : Str → Option Addr} {Ex : WX} {a b : Expr} {pos : Pos} {ma mb : M SV}
/-- as data: an own list that is handed on changes no more -/
def fzO (n : Nat) (x : SV) (S : Sto) : Out SV := match x with
  | .d d => .ok (.d d) (S.take n)
  | .r i => match S[i]? with
    | some (.lst xs) => .ok (.d (.list xs)) ((S.set i (.frz (.list xs))).take n)
    | some (.frz d) => .ok (.d d) (S.take n)
    | _ => .bad
  | .f k => .ok (.f k) (S.take n)
  | .s ns => .ok (.s ns) (S.take n)
def mFz (m : M SV) : M SV := fun E S => (m E S).bind fun x S1 => fzO S.length x S1
theorem tE_fz {m : M SV} (σ : St) (H : Hp) (Q : VK) (h : tE X.K cl Ex (mFz m) σ H Q) : tE X.K cl Ex m σ H Q := by
  obtain ⟨E, S, τ, B, R, h⟩ := h
  refine tE.of R (Post.bind h) fun x S1 τ1 B1 H1 v e1 R1 hv h1 => ?_
  unfold fzO at h1
  cases x with
  | d d => exact h1 H1 τ B1 ⟨⟨[], by simp⟩, Evl.Ex.refl _⟩ (R.back e1 R1) v hv
  | f k => exact h1 H1 τ B1 ⟨⟨[], by simp⟩, Evl.Ex.refl _⟩ (R.back e1 R1) v hv
  | s ns => exact h1 H1 τ B1 ⟨⟨[], by simp⟩, Evl.Ex.refl _⟩ (R.back e1 R1) v hv
  | r i =>
    obtain ⟨a, ha, rfl⟩ := hv
    dsimp only at h1
    cases q : S1[i]? with
    | none => rw [q] at h1; exact h1.elim
    | some o =>
      rw [q] at h1
      cases o with
      | lst xs =>
        obtain ⟨vs, k1, k2, k3, R2⟩ := R1.freeze q ha
        have ex : Xs B1 (upd B1 a (.lst vs)) := Evl.Ex.new k1
        exact h1 H1 τ (upd B1 a (.lst vs)) ⟨⟨[], by simp⟩, ex⟩ (R.back ⟨e1.pre, e1.ex.trans ex⟩ R2) (.ref a) (.lst upd_same (k2.mono ex))
      | frz d =>
        obtain ⟨b, k1, _, k2⟩ := R1.ob i _ q
        rw [ha] at k1
        cases k1
        exact h1 H1 τ B1 ⟨⟨[], by simp⟩, Evl.Ex.refl _⟩ (R.back e1 R1) (.ref a) k2
      | ins c fs => exact h1.elim
theorem se_fz {m : M SV} (h : SE X cl Ex a m) : SE X cl Ex a (mFz m) := PE_imp h tE_fz

/-! ### in -/
def gIn (x y : D) : Option Bool := match y with
  | .list ys => if okEq x y then some (ys.any fun z => PyData.eqv z x) else none
  | .tuple ys => if okEq x y then some (ys.any fun z => PyData.eqv z x) else none
  | .str t => match x with
    | .str z => some (!(Builtin.Str.occurrences t z 0 t.length 1).isEmpty)
    | _ => none
  | _ => none
def gNin (x y : D) : Option Bool := (gIn x y).map (!·)
def rInT (K : PySem.W.Frag) : R2 := fun x y H Q => ∃ d ds, Dp K H x d ∧ Dp K H y (.tuple ds) ∧ SeqAt.shaped d = true ∧ SeqAt.shaped (.tuple ds) = true ∧ Q (.bl (ds.any fun z => PyData.eqv z d)) H
def rNinT (K : PySem.W.Frag) : R2 := fun x y H Q => ∃ d ds, Dp K H x d ∧ Dp K H y (.tuple ds) ∧ SeqAt.shaped d = true ∧ SeqAt.shaped (.tuple ds) = true ∧ Q (.bl (!ds.any fun z => PyData.eqv z d)) H
theorem op_inT (hu : X.A.units + 65 < cLine) : OpR X (compareOp .In) (rInT X.K) := by
  intro pins s σ H x y v u Q I rx ry h
  obtain ⟨d, ds, hd, he, sd, se, q⟩ := h
  obtain ⟨as, r1⟩ := Dp.reads I d x v hd rx
  obtain ⟨bs, r2⟩ := Dp.reads I (.tuple ds) y u he ry
  exact SeqAt.in_tuple_reads r2 r1 (SeqAt.canLay_of_shaped se) (SeqAt.canLay_of_shaped sd) (room_in_shaped sd hu) ⟨.bl _, H, I, rfl, q⟩
theorem op_ninT (hu : X.A.units + 65 < cLine) : OpR X (compareOp .NotIn) (rNinT X.K) := by
  intro pins s σ H x y v u Q I rx ry h
  obtain ⟨d, ds, hd, he, sd, se, q⟩ := h
  obtain ⟨as, r1⟩ := Dp.reads I d x v hd rx
  obtain ⟨bs, r2⟩ := Dp.reads I (.tuple ds) y u he ry
  exact SeqAt.notIn_tuple_reads r2 r1 (SeqAt.canLay_of_shaped se) (SeqAt.canLay_of_shaped sd) (room_in_shaped sd hu) ⟨.bl _, H, I, rfl, q⟩
theorem cmp_in (hu : X.A.units + 65 < cLine) : CmpD X .In gIn (fun x y H Q => rInD X.K x y H Q ∨ (rInT X.K x y H Q ∨ ∃ i j, x = .str i ∧ y = .str j ∧ Q (.bl (!(Builtin.Str.occurrences j i 0 j.length 1).isEmpty)) H)) :=
  ⟨(op_inD hu).or ((op_inT hu).or op_in_str), fun B H v w x y b Q ex hv hw e h => by
  unfold gIn at e
  split at e
  · split at e
    · rename_i q
      obtain ⟨q1, q2⟩ := (Bool.and_eq_true _ _).mp q
      cases e
      exact .inl ⟨_, _, (hv.dr ex).dp, (hw.dr ex).dp, q1, q2, h⟩
    · cases e
  · split at e
    · rename_i q
      obtain ⟨q1, q2⟩ := (Bool.and_eq_true _ _).mp q
      cases e
      exact .inr (.inl ⟨_, _, (hv.dr ex).dp, (hw.dr ex).dp, q1, q2, h⟩)
    · cases e
  · split at e
    · cases hv.str; cases hw.str; cases e
      exact .inr (.inr ⟨_, _, rfl, rfl, h⟩)
    · cases e
  · cases e⟩
theorem cmp_notin (hu : X.A.units + 65 < cLine) : CmpD X .NotIn gNin (fun x y H Q => rNotInD X.K x y H Q ∨ (rNinT X.K x y H Q ∨ ∃ i j, x = .str i ∧ y = .str j ∧ Q (.bl (!(!(Builtin.Str.occurrences j i 0 j.length 1).isEmpty))) H)) :=
  ⟨(op_notInD hu).or ((op_ninT hu).or op_notin_str), fun B H v w x y b Q ex hv hw e h => by
  unfold gNin gIn at e
  split at e
  · split at e
    · rename_i q
      obtain ⟨q1, q2⟩ := (Bool.and_eq_true _ _).mp q
      cases e
      exact .inl ⟨_, _, (hv.dr ex).dp, (hw.dr ex).dp, q1, q2, h⟩
    · cases e
  · split at e
    · rename_i q
      obtain ⟨q1, q2⟩ := (Bool.and_eq_true _ _).mp q
      cases e
      exact .inr (.inl ⟨_, _, (hv.dr ex).dp, (hw.dr ex).dp, q1, q2, h⟩)
    · cases e
  · split at e
    · cases hv.str; cases hw.str; cases e
      exact .inr (.inr ⟨_, _, rfl, rfl, h⟩)
    · cases e
  · cases e⟩

/-! ### chains of comparisons -/
def bO (n : Nat) (o : Option Bool) (S : Sto) (f : Bool → Sto → Out SV) : Out SV := match o with
  | some b => f b S
  | none => .bad
def onB (g : D → D → Option Bool) (S : Sto) (x y : SV) : Option Bool := (rd S x).bind fun a => (rd S y).bind fun b => g a b
theorem onB_some {g : D → D → Option Bool} {S : Sto} {x y : SV} {k : Bool} (h : onB g S x y = some k) : ∃ a b, rd S x = some a ∧ rd S y = some b ∧ g a b = some k := by
  unfold onB at h
  cases q : rd S x with
  | none => rw [q] at h; cases h
  | some a =>
    rw [q] at h
    cases q2 : rd S y with
    | none => simp [q2] at h
    | some b =>
      simp only [q2, Option.bind_some] at h
      exact ⟨a, b, rfl, rfl, h⟩
def outB (n : Nat) (b : Bool) (S : Sto) : Out SV := .ok (.d (.bool b)) (S.take n)
def mChain (g g' : D → D → Option Bool) (ma mb mc : M SV) : M SV := fun E S => (ma E S).bind fun x S1 => (mb E S1).bind fun y S2 => match onB g S2 x y with
  | some true => (mc E S2).bind fun z S3 => match onB g' S3 y z with
    | some k => outB S.length k S3
    | none => .bad
  | some false => outB S.length false S2
  | none => .bad
def mChain3 (g g' g2 : D → D → Option Bool) (ma mb mc md : M SV) : M SV := fun E S => (ma E S).bind fun x S1 => (mb E S1).bind fun y S2 => match onB g S2 x y with
  | some true => (mc E S2).bind fun z S3 => match onB g' S3 y z with
    | some true => (md E S3).bind fun t S4 => match onB g2 S4 z t with
      | some k => outB S.length k S4
      | none => .bad
    | some false => outB S.length false S3
    | none => .bad
  | some false => outB S.length false S2
  | none => .bad
section
variable {op op' op2 : CmpOp} {g g' g2 : D → D → Option Bool} {r r' r2 : R2} {c d : Expr} {mc md : M SV}
theorem outB_ok {σ : St} {H H1 : Hp} {E : Vn} {S S1 : Sto} {τ τ1 : List Addr} {B B1 : Hp} {Q : VK} {k : Bool} (R : Rl X.K cl σ H E S τ B) (e1 : Xt τ B τ1 B1) (R1 : Rl X.K cl σ H1 E S1 τ1 B1)
    (h : Post X.K cl Ex σ E τ B1 (outB S.length k S1) fun x _ τ' B' H' => ∀ v, SVr X.K cl τ' B' v x → Q v H') : Q (.bl k) H1 :=
  h H1 τ B1 ⟨⟨[], by simp⟩, Evl.Ex.refl _⟩ (R.back e1 R1) (.bl k) (.bl k)
theorem mChain_ok (h1 : CmpD X op g r) (h2 : CmpD X op' g' r') (σ : St) (H : Hp) (Q : VK) (h : tE X.K cl Ex (mChain g g' ma mb mc) σ H Q) : tChain r r' (tE X.K cl Ex ma) (tE X.K cl Ex mb) (tE X.K cl Ex mc) σ H Q := by
  obtain ⟨E, S, τ, B, R, h⟩ := h
  refine tE.of R (Post.bind h) fun x S1 τ1 B1 H1 v e1 R1 hv h3 => ?_
  refine tE.of R1 ((Post.bind h3).pre e1) fun y S2 τ2 B2 H2 w e2 R2 hw h4 => ?_
  have x2 := e1.trans e2
  cases q : onB g S2 x y with
  | none => rw [q] at h4; exact h4.elim
  | some k =>
    rw [q] at h4
    obtain ⟨da, db, ra, rb, hg⟩ := onB_some q
    refine h1.ok B2 H2 v w da db k _ R2.ex (R2.dv (hv.mono e2) ra) (R2.dv hw rb) hg ⟨k, rfl, ?_⟩
    cases k with
    | false => exact outB_ok R x2 R2 h4
    | true =>
      refine tE.of R2 ((Post.bind h4).pre x2) fun z S3 τ3 B3 H3 t e3 R3 ht h5 => ?_
      cases q5 : onB g' S3 y z with
      | none => rw [q5] at h5; exact h5.elim
      | some k5 =>
        rw [q5] at h5
        obtain ⟨dc, dd, rc, rd', hg'⟩ := onB_some q5
        exact h2.ok B3 H3 w t dc dd k5 _ R3.ex (R3.dv (hw.mono e3) rc) (R3.dv ht rd') hg' (outB_ok R (x2.trans e3) R3 h5)
theorem se_chain (h1 : CmpD X op g r) (h2 : CmpD X op' g' r') (ha : SE X cl Ex a ma) (hb : SE X cl Ex b mb) (hc : SE X cl Ex c mc) (hm : lastMarks [op, op'] [b, c] = false := by with_unfolding_all rfl) :
    SE X cl Ex (.Compare a [op, op'] [b, c] pos) (mChain g g' ma mb mc) := PE_imp (pe_chain h1.op h2.op ha hb hc hm) (mChain_ok h1 h2)
def tChain3 (r r' r2 : R2) (ta tb tc td : TE) : TE := fun σ H Q => ta σ H fun x H1 => tb σ H1 fun y H2 => r x y H2 fun z H3 => ∃ k, z = .bl k ∧
  (if k = true then tc σ H3 fun w' H4 => r' y w' H4 fun z' H5 => ∃ k', z' = .bl k' ∧ (if k' = true then td σ H5 fun t H6 => r2 w' t H6 Q else Q (.bl false) H5) else Q (.bl false) H3)
theorem pe_chain3 {ta tb tc td : TE} (ho : OpR X (compareOp op) r) (ho' : OpR X (compareOp op') r') (ho2 : OpR X (compareOp op2) r2) (ha : PE X a ta) (hb : PE X b tb) (hc : PE X c tc) (hd : PE X d td)
    (hm : lastMarks [op, op', op2] [b, c, d] = false := by with_unfolding_all rfl) : PE X (.Compare a [op, op', op2] [b, c, d] pos) (tChain3 r r' r2 ta tb tc td) := by
  refine ⟨fun pins s σ H Q I h => ?_⟩
  refine Compare_chain (thn (ha.run pins s σ H _ I h) fun v s1 ⟨x, H1, I1, r1, q1⟩ => chain_link (thn (hb.run pins s1 σ H1 _ I1 q1) fun u s2 ⟨y, H2, I2, r2, q2⟩ =>
    thn (ho pins s2 σ H2 x y v u _ I2 r1 r2 q2) fun d s3 ⟨z, H3, I3, r3, k, e, q3⟩ => ?_)) hm
  subst e
  cases r3
  refine wpAny_truthy_bool ?_
  cases k with
  | false => exact ite_ff ⟨.bl false, H3, I3, rfl, q3⟩
  | true =>
    refine ite_tt (chain_link (thn (hc.run pins s3 σ H3 _ I3 q3) fun w' s4 ⟨z', H4, I4, r4, q4⟩ => thn (ho' pins s4 σ H4 y z' u w' _ I4 r2 r4 q4) fun d' s5 ⟨z5, H5, I5, r5, k5, e5, q5⟩ => ?_))
    subst e5
    cases r5
    refine wpAny_truthy_bool ?_
    cases k5 with
    | false => exact ite_ff ⟨.bl false, H5, I5, rfl, q5⟩
    | true => exact ite_tt (chain_last (thn (hd.run pins s5 σ H5 _ I5 q5) fun w6 s6 ⟨z6, H6, I6, r6, q6⟩ => ho2 pins s6 σ H6 z' z6 w' w6 Q I6 r4 r6 q6))
theorem pt_chain3 {ta tb tc td : TE} (ho : OpR X (compareOp op) r) (ho' : OpR X (compareOp op') r') (ho2 : OpR X (compareOp op2) r2) (ha : PE X a ta) (hb : PE X b tb) (hc : PE X c tc) (hd : PE X d td)
    (hm : lastMarks [op, op', op2] [b, c, d] = false := by with_unfolding_all rfl) : PT X (.Compare a [op, op', op2] [b, c, d] pos) (tTest (tChain3 r r' r2 ta tb tc td)) := by
  refine ⟨fun pins s σ H Q I h => ?_⟩
  refine isTrue_chain (thn (ha.run pins s σ H _ I h) fun v s1 ⟨x, H1, I1, r1, q1⟩ => test_link (thn (hb.run pins s1 σ H1 _ I1 q1) fun u s2 ⟨y, H2, I2, r2, q2⟩ =>
    thn (ho pins s2 σ H2 x y v u _ I2 r1 r2 q2) fun d s3 ⟨z, H3, I3, r3, k, e, q3⟩ => ?_)) hm
  subst e
  cases r3
  refine wpAny_truthy_bool ?_
  cases k with
  | false =>
    obtain ⟨k', e', q'⟩ := q3
    cases e'
    exact ite_ff ⟨H3, I3, q'⟩
  | true =>
    refine ite_tt (test_link (thn (hc.run pins s3 σ H3 _ I3 q3) fun w' s4 ⟨z', H4, I4, r4, q4⟩ => thn (ho' pins s4 σ H4 y z' u w' _ I4 r2 r4 q4) fun d' s5 ⟨z5, H5, I5, r5, k5, e5, q5⟩ => ?_))
    subst e5
    cases r5
    refine wpAny_truthy_bool ?_
    cases k5 with
    | false =>
      obtain ⟨k', e', q'⟩ := q5
      cases e'
      exact ite_ff ⟨H5, I5, q'⟩
    | true =>
      refine ite_tt (test_last (thn (hd.run pins s5 σ H5 _ I5 q5) fun w6 s6 ⟨z6, H6, I6, r6, q6⟩ => thn (ho2 pins s6 σ H6 z' z6 w' w6 _ I6 r4 r6 q6) fun d7 s7 ⟨z7, H7, I7, r7, k7, e7, q7⟩ => ?_))
      subst e7
      cases r7
      exact wpAny_truthy_bool ⟨H7, I7, q7⟩
theorem mChain3_ok (h1 : CmpD X op g r) (h2 : CmpD X op' g' r') (h3 : CmpD X op2 g2 r2) (σ : St) (H : Hp) (Q : VK) (h : tE X.K cl Ex (mChain3 g g' g2 ma mb mc md) σ H Q) :
    tChain3 r r' r2 (tE X.K cl Ex ma) (tE X.K cl Ex mb) (tE X.K cl Ex mc) (tE X.K cl Ex md) σ H Q := by
  obtain ⟨E, S, τ, B, R, h⟩ := h
  refine tE.of R (Post.bind h) fun x S1 τ1 B1 H1 v e1 R1 hv k3 => ?_
  refine tE.of R1 ((Post.bind k3).pre e1) fun y S2 τ2 B2 H2 w e2 R2 hw h4 => ?_
  have x2 := e1.trans e2
  cases q : onB g S2 x y with
  | none => rw [q] at h4; exact h4.elim
  | some k =>
    rw [q] at h4
    obtain ⟨da, db, ra, rb, hg⟩ := onB_some q
    refine h1.ok B2 H2 v w da db k _ R2.ex (R2.dv (hv.mono e2) ra) (R2.dv hw rb) hg ⟨k, rfl, ?_⟩
    cases k with
    | false => exact outB_ok R x2 R2 h4
    | true =>
      refine tE.of R2 ((Post.bind h4).pre x2) fun z S3 τ3 B3 H3 t e3 R3 ht h5 => ?_
      have x3 := x2.trans e3
      cases q5 : onB g' S3 y z with
      | none => rw [q5] at h5; exact h5.elim
      | some k5 =>
        rw [q5] at h5
        obtain ⟨dc, dd, rc, rd', hg'⟩ := onB_some q5
        refine h2.ok B3 H3 w t dc dd k5 _ R3.ex (R3.dv (hw.mono e3) rc) (R3.dv ht rd') hg' ⟨k5, rfl, ?_⟩
        cases k5 with
        | false => exact outB_ok R x3 R3 h5
        | true =>
          refine tE.of R3 ((Post.bind h5).pre x3) fun z' S4 τ4 B4 H4 t4 e4 R4 ht4 h6 => ?_
          cases q6 : onB g2 S4 z z' with
          | none => rw [q6] at h6; exact h6.elim
          | some k6 =>
            rw [q6] at h6
            obtain ⟨de, df, re, rf, hg6⟩ := onB_some q6
            exact h3.ok B4 H4 t t4 de df k6 _ R4.ex (R4.dv (ht.mono e4) re) (R4.dv ht4 rf) hg6 (outB_ok R (x3.trans e4) R4 h6)
theorem se_chain3 (h1 : CmpD X op g r) (h2 : CmpD X op' g' r') (h3 : CmpD X op2 g2 r2) (ha : SE X cl Ex a ma) (hb : SE X cl Ex b mb) (hc : SE X cl Ex c mc) (hd : SE X cl Ex d md) (hm : lastMarks [op, op', op2] [b, c, d] = false := by with_unfolding_all rfl) :
    SE X cl Ex (.Compare a [op, op', op2] [b, c, d] pos) (mChain3 g g' g2 ma mb mc md) := PE_imp (pe_chain3 h1.op h2.op h3.op ha hb hc hd hm) (mChain3_ok h1 h2 h3)

/-! ### tests -/
def truD : D → Option Bool
  | .none => some false
  | .bool b => some b
  | .int i => some (i != 0)
  | .str y => if y.length ≤ sizeLine then some ((y.length : Int) != 0) else none
  | .list xs => some (!xs.isEmpty)
  | .tuple xs => some (!xs.isEmpty)
  | .dict _ => none
/-- the truth of what an expression hands back -/
def mT (m : M SV) : M Bool := fun E S => (m E S).bind fun x S1 => match (rd S1 x).bind truD with
  | some b => .ok b (S1.take S.length)
  | none => .bad
theorem DV.tru {K : PySem.W.Frag} {B H : Hp} {v : V} {d : D} {b : Bool} (ex : Xs B H) (h : DV K B H v d) (e : truD d = some b) : TruV K v H b := by
  unfold truD at e
  cases d with
  | none => cases h.non; cases e; rfl
  | bool b => cases h.bl; cases e; rfl
  | int i => cases h.int; cases e; rfl
  | str y =>
    cases h.str
    dsimp only at e
    split at e
    · cases e
      exact ⟨by assumption, rfl⟩
    · cases e
  | list xs =>
    obtain ⟨a, vs, rfl, h1, h2⟩ := h.lst ex
    cases e
    refine .inl ⟨vs, SqL.of h1, ?_⟩
    cases h2 <;> rfl
  | tuple xs =>
    obtain ⟨a, vs, rfl, h1, h2⟩ := h.tup ex
    cases e
    refine .inr (.inl ⟨vs, h1, ?_⟩)
    cases h2 <;> rfl
  | dict _ => cases e
theorem mT_ok {m : M SV} (σ : St) (H : Hp) (Q : Bool → Hp → Prop) (h : tT X.K cl Ex (mT m) σ H Q) : tE X.K cl Ex m σ H fun x H' => ∃ k, TruV X.K x H' k ∧ Q k H' := by
  obtain ⟨E, S, τ, B, R, h⟩ := h
  refine tE.of R (Post.bind h) fun x S1 τ1 B1 H1 v e1 R1 hv h3 => ?_
  cases q : (rd S1 x).bind truD with
  | none => rw [q] at h3; exact h3.elim
  | some k =>
    rw [q] at h3
    cases q2 : rd S1 x with
    | none => rw [q2] at q; cases q
    | some d =>
      rw [q2] at q
      exact ⟨k, (R1.dv hv q2).tru R1.ex q, h3 H1 τ B1 ⟨⟨[], by simp⟩, Evl.Ex.refl _⟩ (R.back e1 R1)⟩
/-- what always hands back a bool -/
def BoolM (m : M SV) : Prop := ∀ E S x S', m E S = .ok x S' → ∃ k, x = .d (.bool k)
theorem mT_bl {m : M SV} (hb : BoolM m) (σ : St) (H : Hp) (Q : Bool → Hp → Prop) (h : tT X.K cl Ex (mT m) σ H Q) : tE X.K cl Ex m σ H fun x H' => ∃ k, x = .bl k ∧ Q k H' := by
  obtain ⟨E, S, τ, B, R, h⟩ := h
  have h' := Post.bind h
  refine ⟨E, S, τ, B, R, ?_⟩
  cases q : m E S with
  | bad => rw [q] at h'; exact h'
  | exc x S' => rw [q] at h'; exact h'
  | ok x S1 =>
    rw [q] at h'
    obtain ⟨k, rfl⟩ := hb E S x S1 q
    intro H1 τ1 B1 e1 R1 v hv
    cases hv
    exact ⟨k, rfl, h' H1 τ1 B1 e1 R1 H1 τ B1 ⟨⟨[], by simp⟩, Evl.Ex.refl _⟩ (R.back e1 R1)⟩
theorem st_val {m : M SV} (h : SE X cl Ex a m) (he : ∀ whole, isTrue a X.env whole = (do let v ← whole; standAt a.pos; holding [v] (truthy v)) := by intro _; rfl) : ST X cl Ex a (mT m) := PT_imp (pt_truth h he) mT_ok
theorem boolM_cmp : BoolM (m2 (on2 (bV g)) ma mb) := fun E S x S' h => by
  unfold m2 at h
  cases q : ma E S with
  | bad => rw [q] at h; cases h
  | exc x S' => rw [q] at h; cases h
  | ok x S1 =>
    rw [q] at h
    simp only [bind_ok] at h
    cases q2 : mb E S1 with
    | bad => rw [q2] at h; cases h
    | exc x S' => rw [q2] at h; cases h
    | ok y S2 =>
      rw [q2] at h
      simp only [bind_ok] at h
      unfold on2 bV outN at h
      cases q3 : rd S2 x with
      | none => rw [q3] at h; cases h
      | some d1 =>
        cases q4 : rd S2 y with
        | none => rw [q3, q4] at h; cases h
        | some d2 =>
          rw [q3, q4] at h
          simp only [Option.bind_some] at h
          cases q5 : g d1 d2 with
          | none => rw [q5] at h; cases h
          | some k =>
            rw [q5] at h
            cases h
            exact ⟨k, rfl⟩
theorem st_cmp (c : CmpD X op g r) (ha : SE X cl Ex a ma) (hb : SE X cl Ex b mb) (hm : behindInMarks op b = false) : ST X cl Ex (.Compare a [op] [b] pos) (mT (m2 (on2 (bV g)) ma mb)) :=
  PT_imp (pt_cmpR c.op ha hb hm) fun σ H Q h => m2_ok (on2_ok fun B H v w x y nv Q ex hv hw e h => by
    unfold bV at e
    cases q : g x y with
    | none => rw [q] at e; cases e
    | some k =>
      rw [q] at e
      cases e
      exact c.ok B H v w x y k Q ex hv hw q (h.here ex (.bl _))) σ H _ (mT_bl boolM_cmp σ H Q h)
theorem outB_bool {n : Nat} {k : Bool} {S S' : Sto} {x : SV} (h : outB n k S = .ok x S') : ∃ k, x = .d (.bool k) := by
  unfold outB at h
  cases h
  exact ⟨k, rfl⟩
theorem bind_some {α β : Type} {o : Out α} {f : α → Sto → Out β} {y : β} {S : Sto} (h : o.bind f = .ok y S) : ∃ x S1, o = .ok x S1 ∧ f x S1 = .ok y S := by
  cases o with
  | ok x S1 => exact ⟨x, S1, rfl, h⟩
  | exc x S1 => cases h
  | bad => cases h
theorem boolM_chain {mc : M SV} : BoolM (mChain g g' ma mb mc) := fun E S x S' h => by
  unfold mChain at h
  obtain ⟨x1, S1, q1, h⟩ := bind_some h
  obtain ⟨x2, S2, q2, h⟩ := bind_some h
  split at h
  · obtain ⟨x3, S3, q3, h⟩ := bind_some h
    split at h
    · exact outB_bool h
    · cases h
  · exact outB_bool h
  · cases h
theorem boolM_chain3 {mc md : M SV} : BoolM (mChain3 g g' g2 ma mb mc md) := fun E S x S' h => by
  unfold mChain3 at h
  obtain ⟨x1, S1, q1, h⟩ := bind_some h
  obtain ⟨x2, S2, q2, h⟩ := bind_some h
  split at h
  · obtain ⟨x3, S3, q3, h⟩ := bind_some h
    split at h
    · obtain ⟨x4, S4, q4, h⟩ := bind_some h
      split at h
      · exact outB_bool h
      · cases h
    · exact outB_bool h
    · cases h
  · exact outB_bool h
  · cases h
theorem st_chain (h1 : CmpD X op g r) (h2 : CmpD X op' g' r') (ha : SE X cl Ex a ma) (hb : SE X cl Ex b mb) (hc : SE X cl Ex c mc) (hm : lastMarks [op, op'] [b, c] = false := by with_unfolding_all rfl) :
    ST X cl Ex (.Compare a [op, op'] [b, c] pos) (mT (mChain g g' ma mb mc)) := PT_imp (pt_chain h1.op h2.op ha hb hc hm) fun σ H Q h => mChain_ok h1 h2 σ H _ (mT_bl boolM_chain σ H Q h)
theorem st_chain3 (h1 : CmpD X op g r) (h2 : CmpD X op' g' r') (h3 : CmpD X op2 g2 r2) (ha : SE X cl Ex a ma) (hb : SE X cl Ex b mb) (hc : SE X cl Ex c mc) (hd : SE X cl Ex d md) (hm : lastMarks [op, op', op2] [b, c, d] = false := by with_unfolding_all rfl) :
    ST X cl Ex (.Compare a [op, op', op2] [b, c, d] pos) (mT (mChain3 g g' g2 ma mb mc md)) := PT_imp (pt_chain3 h1.op h2.op h3.op ha hb hc hd hm) fun σ H Q h => mChain3_ok h1 h2 h3 σ H _ (mT_bl boolM_chain3 σ H Q h)
end

/-! ### and, or, not -/
section
variable {na nb : M Bool} {rest : List Expr}
abbrev SW (X : Cx) (cl : Str → Option Addr) (Ex : WX) (e : Expr) (m : M Bool) : Prop := PW X e (tT X.K cl Ex m)
def mAnd (na nb : M Bool) : M Bool := fun E S => (na E S).bind fun b S1 => if b then nb E S1 else .ok false S1
def mOr (na nb : M Bool) : M Bool := fun E S => (na E S).bind fun b S1 => if b then .ok true S1 else nb E S1
def mNot (na : M Bool) : M Bool := fun E S => (na E S).bind fun b S1 => .ok (!b) S1
theorem sw_and1 (ha : ST X cl Ex a na) : SW X cl Ex (.BoolOp .And [a] pos) na := pw_and1 ha
theorem sw_or1 (ha : ST X cl Ex a na) : SW X cl Ex (.BoolOp .Or [a] pos) na := pw_or1 ha
theorem sw_and (ha : ST X cl Ex a na) (hb : SW X cl Ex (.BoolOp .And (b :: rest) pos) nb) : SW X cl Ex (.BoolOp .And (a :: b :: rest) pos) (mAnd na nb) :=
  PW_imp (pw_and ha hb) fun σ H Q ⟨E, S, τ, B, R, h⟩ => by
    refine tT.of R (Post.bind h) fun k S1 τ1 B1 H1 e1 R1 h1 => ?_
    cases k with
    | true => exact tT.of R1 (Post.pre e1 h1) fun x S2 τ2 B2 H2 e2 R2 h2 => h2
    | false => exact h1 H1 τ1 B1 ⟨e1.pre, Evl.Ex.refl _⟩ R1
theorem sw_or (ha : ST X cl Ex a na) (hb : SW X cl Ex (.BoolOp .Or (b :: rest) pos) nb) : SW X cl Ex (.BoolOp .Or (a :: b :: rest) pos) (mOr na nb) :=
  PW_imp (pw_or ha hb) fun σ H Q ⟨E, S, τ, B, R, h⟩ => by
    refine tT.of R (Post.bind h) fun k S1 τ1 B1 H1 e1 R1 h1 => ?_
    cases k with
    | true => exact h1 H1 τ1 B1 ⟨e1.pre, Evl.Ex.refl _⟩ R1
    | false => exact tT.of R1 (Post.pre e1 h1) fun x S2 τ2 B2 H2 e2 R2 h2 => h2
theorem st_bool {op : BoolOp} {es : List Expr} (h : SW X cl Ex (.BoolOp op es pos) na) : ST X cl Ex (.BoolOp op es pos) na := PW.pt h
theorem st_not (ha : ST X cl Ex a na) : ST X cl Ex (.UnaryOp .Not a pos) (mNot na) :=
  PT_imp (pt_not ha) fun σ H Q ⟨E, S, τ, B, R, h⟩ => tT.of R (Post.bind h) fun k S1 τ1 B1 H1 e1 R1 h1 => h1 H1 τ1 B1 ⟨e1.pre, Evl.Ex.refl _⟩ R1
/-- as values -/
def mAndV (ma mb : M SV) : M SV := fun E S => (ma E S).bind fun x S1 => match (rd S1 x).bind truD with
  | some true => (mb E S1).bind fun y S2 => fzO S.length y S2
  | some false => .ok x S1
  | none => .bad
def mOrV (ma mb : M SV) : M SV := fun E S => (ma E S).bind fun x S1 => match (rd S1 x).bind truD with
  | some true => .ok x S1
  | some false => (mb E S1).bind fun y S2 => fzO S.length y S2
  | none => .bad
theorem fzO_ok {σ : St} {H H1 : Hp} {E : Vn} {S S1 : Sto} {τ τ1 : List Addr} {B B1 : Hp} {v : V} {x : SV} {Q : VK} (R : Rl X.K cl σ H E S τ B) (e1 : Xt τ B τ1 B1) (R1 : Rl X.K cl σ H1 E S1 τ1 B1) (hv : SVr X.K cl τ1 B1 v x)
    (h : Post X.K cl Ex σ E τ B1 (fzO S.length x S1) fun x _ τ' B' H' => ∀ v, SVr X.K cl τ' B' v x → Q v H') : Q v H1 := by
  unfold fzO at h
  cases x with
  | d d => exact h H1 τ B1 ⟨⟨[], by simp⟩, Evl.Ex.refl _⟩ (R.back e1 R1) v hv
  | f k => exact h H1 τ B1 ⟨⟨[], by simp⟩, Evl.Ex.refl _⟩ (R.back e1 R1) v hv
  | s ns => exact h H1 τ B1 ⟨⟨[], by simp⟩, Evl.Ex.refl _⟩ (R.back e1 R1) v hv
  | r i =>
    obtain ⟨a, ha, rfl⟩ := hv
    dsimp only at h
    cases q : S1[i]? with
    | none => rw [q] at h; exact h.elim
    | some o =>
      rw [q] at h
      cases o with
      | lst xs =>
        obtain ⟨vs, k1, k2, k3, R2⟩ := R1.freeze q ha
        have ex : Xs B1 (upd B1 a (.lst vs)) := Evl.Ex.new k1
        exact h H1 τ (upd B1 a (.lst vs)) ⟨⟨[], by simp⟩, ex⟩ (R.back ⟨e1.pre, e1.ex.trans ex⟩ R2) (.ref a) (.lst upd_same (k2.mono ex))
      | frz d =>
        obtain ⟨b, k1, _, k2⟩ := R1.ob i _ q
        rw [ha] at k1
        cases k1
        exact h H1 τ B1 ⟨⟨[], by simp⟩, Evl.Ex.refl _⟩ (R.back e1 R1) (.ref a) k2
      | ins c fs => exact h.elim
theorem se_one {op : BoolOp} (ha : SE X cl Ex a ma) : SE X cl Ex (.BoolOp op [a] pos) ma := pe_one ha
theorem se_and (ha : SE X cl Ex a ma) (hb : SE X cl Ex (.BoolOp .And (b :: rest) pos) mb) : SE X cl Ex (.BoolOp .And (a :: b :: rest) pos) (mAndV ma mb) :=
  PE_imp (pe_andT ha hb) fun σ H Q ⟨E, S, τ, B, R, h⟩ => by
    refine tE.of R (Post.bind h) fun x S1 τ1 B1 H1 v e1 R1 hv h1 => ?_
    cases q : (rd S1 x).bind truD with
    | none => rw [q] at h1; exact h1.elim
    | some k =>
      rw [q] at h1
      cases q2 : rd S1 x with
      | none => rw [q2] at q; cases q
      | some d =>
        rw [q2] at q
        refine ⟨k, (R1.dv hv q2).tru R1.ex q, ?_⟩
        cases k with
        | true => exact tE.of R1 (Post.pre e1 (Post.bind h1)) fun y S2 τ2 B2 H2 w e2 R2 hw h2 => fzO_ok R (e1.trans e2) R2 hw h2
        | false => exact h1 H1 τ1 B1 ⟨e1.pre, Evl.Ex.refl _⟩ R1 v hv
theorem se_or (ha : SE X cl Ex a ma) (hb : SE X cl Ex (.BoolOp .Or (b :: rest) pos) mb) : SE X cl Ex (.BoolOp .Or (a :: b :: rest) pos) (mOrV ma mb) :=
  PE_imp (pe_orT ha hb) fun σ H Q ⟨E, S, τ, B, R, h⟩ => by
    refine tE.of R (Post.bind h) fun x S1 τ1 B1 H1 v e1 R1 hv h1 => ?_
    cases q : (rd S1 x).bind truD with
    | none => rw [q] at h1; exact h1.elim
    | some k =>
      rw [q] at h1
      cases q2 : rd S1 x with
      | none => rw [q2] at q; cases q
      | some d =>
        rw [q2] at q
        refine ⟨k, (R1.dv hv q2).tru R1.ex q, ?_⟩
        cases k with
        | false => exact tE.of R1 (Post.pre e1 (Post.bind h1)) fun y S2 τ2 B2 H2 w e2 R2 hw h2 => fzO_ok R (e1.trans e2) R2 hw h2
        | true => exact h1 H1 τ1 B1 ⟨e1.pre, Evl.Ex.refl _⟩ R1 v hv
def gNot (x : D) : Option NV := (truD x).map fun b => .val (.bool (!b))
theorem se_not (ha : SE X cl Ex a ma) : SE X cl Ex (.UnaryOp .Not a pos) (m1 (on1 gNot) ma) :=
  PE_imp (pe_notT ha) (m1_ok (r := fun x H Q => ∃ k, TruV X.K x H k ∧ Q (.bl (!k)) H) (on1_ok fun B H v x nv Q ex hv e h => by
    unfold gNot at e
    cases q : truD x with
    | none => rw [q] at e; cases e
    | some k =>
      rw [q] at e
      cases e
      exact ⟨k, hv.tru ex q, h.here ex (.bl _)⟩))
def mIf (c : M Bool) (ma mb : M SV) : M SV := fun E S => (c E S).bind fun k S1 => if k then (ma E S1) else (mb E S1)
theorem se_if {c : Expr} {nc : M Bool} (hc : ST X cl Ex c nc) (ha : SE X cl Ex a ma) (hb : SE X cl Ex b mb) : SE X cl Ex (.IfExp c a b pos) (mIf nc ma mb) :=
  PE_imp (pe_ifExp hc ha hb) fun σ H Q ⟨E, S, τ, B, R, h⟩ => by
    refine tT.of R (Post.bind h) fun k S1 τ1 B1 H1 e1 R1 h1 => ?_
    cases k with
    | true => exact tE.of R1 (Post.pre e1 h1) fun x S2 τ2 B2 H2 v e2 R2 hv h2 => h2 v hv
    | false => exact tE.of R1 (Post.pre e1 h1) fun x S2 τ2 B2 H2 v e2 R2 hv h2 => h2 v hv
end
end
end Z

/-! Z4: arguments, displays, items, slices, calls of built-ins, isinstance. -/
namespace Z
open PySem PySem.Spec L2
open PyProof.Rows hiding St
section
variable {X : Cx} {cl : Str → Option Addr} {Ex : WX} {a b e : Expr} {es : List Expr} {pos p : Pos} {ma mb : M SV} {ms : M (List SV)}
def mNil : M (List SV) := fun _ S => .ok [] S
def mCons (m : M SV) (ms : M (List SV)) : M (List SV) := fun E S => (m E S).bind fun x S1 => (ms E S1).bind fun xs S2 => .ok (x :: xs) S2
theorem sa_nil : SA X cl Ex [] mNil := PA_imp pa_nil fun σ H Q ⟨E, S, τ, B, R, h⟩ => h H τ B Xt.refl R [] .nil
theorem sa_cons (ha : SE X cl Ex e ma) (hr : SA X cl Ex es ms) (hs : starEach (e :: es) X.env = (false, eval e X.env) :: starEach es X.env := by rfl) : SA X cl Ex (e :: es) (mCons ma ms) :=
  PA_imp (pa_cons ha hr hs) fun σ H Q ⟨E, S, τ, B, R, h⟩ => by
    refine tE.of R (Post.bind h) fun x S1 τ1 B1 H1 v e1 R1 hv h1 => ?_
    refine tA.of R1 ((Post.bind h1).pre e1) fun xs S2 τ2 B2 H2 vs e2 R2 hvs h2 => ?_
    have x2 := e1.trans e2
    exact h2 H2 τ2 B2 ⟨x2.pre, Evl.Ex.refl _⟩ R2 (v :: vs) (.cons (hv.mono e2) hvs)
def pures : List SV → Option (List D)
  | [] => some []
  | .d x :: r => (pures r).map (x :: ·)
  | _ :: _ => none
theorem SVrs.pure {K : PySem.W.Frag} {τ : List Addr} {B : Hp} : ∀ {vs : List V} {xs : List SV} {ds : List D}, SVrs K cl τ B vs xs → pures xs = some ds → DRs K B vs ds
  | _, _, _, .nil, h => by cases h; exact .nil
  | _, .d x :: r, _, .cons hv hr, h => by
    unfold pures at h
    cases q : pures r with
    | none => rw [q] at h; cases h
    | some es =>
      rw [q] at h
      cases h
      exact .cons hv (hr.pure q)
  | _, .r _ :: _, _, .cons _ _, h => by cases h
  | _, .f _ :: _, _, .cons _ _, h => by cases h
  | _, .s _ :: _, _, .cons _ _, h => by cases h
def fTup (_ : Sto) (xs : List SV) : Option NV := (pures xs).bind fun ds => okLen ds.length (.val (.tuple ds))
def fLst (_ : Sto) (xs : List SV) : Option NV := (pures xs).bind fun ds => okLen ds.length (.lst ds)
theorem se_tup {x1} (h : SA X cl Ex es ms) : SE X cl Ex (.Tuple es x1 pos) (mB fTup ms) :=
  PE_imp (pe_tup h) (mB_ok (r := fun xs H Q => xs.length ≤ sizeLine ∧ ∀ p, H p = none → Q (.ref p) (upd H p (.tup xs))) fun σ H E S τ B xs nv vs Q R hv e q => by
    unfold fTup at e
    cases q1 : pures xs with
    | none => rw [q1] at e; cases e
    | some ds =>
      rw [q1] at e
      obtain ⟨hl, rfl⟩ := okLen_some e
      have r := hv.pure q1
      exact ⟨by rw [r.length]; exact hl, fun p hp => q.tup R.ex hp r⟩)
theorem se_lst (h : SA X cl Ex es ms) : SE X cl Ex (.List es pos) (mB fLst ms) :=
  PE_imp (pe_lst h) (mB_ok (r := fun xs H Q => xs.length ≤ sizeLine ∧ ∀ p, H p = none → Q (.ref p) (upd H p (.lst xs))) fun σ H E S τ B xs nv vs Q R hv e q => by
    unfold fLst at e
    cases q1 : pures xs with
    | none => rw [q1] at e; cases e
    | some ds =>
      rw [q1] at e
      obtain ⟨hl, rfl⟩ := okLen_some e
      have r := hv.pure q1
      exact ⟨by rw [r.length]; exact hl, fun p hp => q p _ hp r⟩)

/-! ### items and slices -/
def gIx : D → D → Option NV
  | .list xs, .int i => (atI xs i).map .val
  | .tuple xs, .int i => (atI xs i).map .val
  | .str z, .int i => if z.length ≤ sizeLine then (atI z.cps.toList i).map fun c => .val (.str ⟨#[c]⟩) else none
  | _, _ => none
theorem DRs.atI {K : PySem.W.Frag} {B : Hp} {vs : List V} {ds : List D} {i : Int} {d : D} (r : DRs K B vs ds) (h : L2.atI ds i = some d) : ∃ v, L2.atI vs i = some v ∧ DR K B v d := by
  unfold L2.atI at h ⊢
  rw [r.length]
  cases q : ixN ds.length i with
  | none => rw [q] at h; cases h
  | some j =>
    rw [q] at h
    exact r.get h
theorem se_ix (ha : SE X cl Ex a ma) (hb : SE X cl Ex b mb) (hs : PlainIx b := by exact fun _ _ => rfl) : SE X cl Ex (.Subscript a b pos) (m2 (on2 gIx) ma mb) :=
  PE_imp (pe_ix ix_seq ha hb hs) (m2_ok (on2_ok fun B H v w x y nv Q ex hv hw e h => by
    unfold gIx at e
    split at e
    · rename_i xs i
      obtain ⟨p, vs, rfl, h1, h2⟩ := hv.lst ex
      cases hw.int
      cases q : atI xs i with
      | none => rw [q] at e; cases e
      | some d =>
        rw [q] at e
        cases e
        obtain ⟨u, k1, k2⟩ := h2.atI q
        exact .inl ⟨p, vs, i, u, rfl, rfl, SqL.of h1, k1, h.here ex k2⟩
    · rename_i xs i
      obtain ⟨p, vs, rfl, h1, h2⟩ := hv.tup ex
      cases hw.int
      cases q : atI xs i with
      | none => rw [q] at e; cases e
      | some d =>
        rw [q] at e
        cases e
        obtain ⟨u, k1, k2⟩ := h2.atI q
        exact .inr (.inl ⟨p, vs, i, u, rfl, rfl, h1, k1, h.here ex k2⟩)
    · rename_i z i
      split at e
      · rename_i hz
        cases hv.str; cases hw.int
        cases q : atI z.cps.toList i with
        | none => rw [q] at e; cases e
        | some c =>
          rw [q] at e
          cases e
          exact .inr (.inr ⟨z, i, c, rfl, rfl, hz, q, h.here ex (.str _)⟩)
      · cases e
    · cases e))
/-- a part of a slice -/
abbrev SO (X : Cx) (cl : Str → Option Addr) (Ex : WX) (e : Option Expr) (m : Option (M SV)) : Prop := match m with
  | none => e = none
  | some m => ∃ e', e = some e' ∧ SE X cl Ex e' m
def intOf (S : Sto) (x : SV) : Option Int := match rd S x with
  | some (.int i) => some i
  | _ => none
def mPart (m : Option (M SV)) : M (Option Int) := match m with
  | none => fun _ S => .ok none S
  | some m => fun E S => (m E S).bind fun x S1 => match intOf S1 x with
    | some i => .ok (some i) S1
    | none => .bad
def gSl (lo hi : Option Int) : D → Option NV
  | .list xs => some (.lst ((xs.drop (HT.sIx xs.length 0 lo)).take (HT.sIx xs.length xs.length hi - HT.sIx xs.length 0 lo)))
  | .tuple xs => some (.val (.tuple ((xs.drop (HT.sIx xs.length 0 lo)).take (HT.sIx xs.length xs.length hi - HT.sIx xs.length 0 lo))))
  | _ => none
/-- the script's own part -/
def gSlS (S : Sto) (x : SV) (lo hi : Option Int) : Option NV := match x with
  | .s ns => some (.lst (((ns.drop (HT.sIx ns.length 0 lo)).take (HT.sIx ns.length ns.length hi - HT.sIx ns.length 0 lo)).map PyData.int))
  | x => on1 (gSl lo hi) S x
def mSl (lo hi : Option (M SV)) (ma : M SV) : M SV := fun E S => (ma E S).bind fun x S1 => (mPart lo E S1).bind fun l S2 => (mPart hi E S2).bind fun h S3 => outN S.length (gSlS S3 x l h) S3
def tO (K : PySem.W.Frag) (cl : Str → Option Addr) (Ex : WX) (m : M (Option Int)) : TO := fun σ H Q => ∃ E S τ B, Rl K cl σ H E S τ B ∧ Post K cl Ex σ E τ B (m E S) fun o _ _ _ H' => Q o H'
theorem po_of {e : Option Expr} {m : Option (M SV)} (h : SO X cl Ex e m) : PO X e (tO X.K cl Ex (mPart m)) := by
  cases m with
  | none =>
    cases h
    exact ⟨fun pins s σ H Q I ⟨E, S, τ, B, R, q⟩ => po_none.run pins s σ H Q I (q H τ B Xt.refl R)⟩
  | some m =>
    obtain ⟨e', rfl, h⟩ := h
    refine ⟨fun pins s σ H Q I ⟨E, S, τ, B, R, q⟩ => (po_some h).run pins s σ H Q I ?_⟩
    refine tE.of R (Post.bind q) fun x S1 τ1 B1 H1 v e1 R1 hv h1 => ?_
    unfold intOf at h1
    cases q1 : rd S1 x with
    | none => rw [q1] at h1; exact h1.elim
    | some d =>
      rw [q1] at h1
      cases d with
      | int i =>
        cases (R1.dv hv q1).int
        exact ⟨i, rfl, h1 H1 τ1 B1 ⟨e1.pre, Evl.Ex.refl _⟩ R1⟩
      | _ => exact h1.elim
theorem tO.of {K : PySem.W.Frag} {σ : St} {H : Hp} {E : Vn} {S : Sto} {τ : List Addr} {B : Hp} {m : M (Option Int)} {Q : Option Int → Hp → Prop} (R : Rl K cl σ H E S τ B) {G : Option Int → Sto → List Addr → Hp → Hp → Prop} (h : Post K cl Ex σ E τ B (m E S) G)
    (f : ∀ x S' τ' B' H', Xt τ B τ' B' → Rl K cl σ H' E S' τ' B' → G x S' τ' B' H' → Q x H') : tO K cl Ex m σ H Q :=
  ⟨E, S, τ, B, R, h.mono fun x S' τ' B' H' e r g => f x S' τ' B' H' e r g⟩
theorem DRs.cut {K : PySem.W.Frag} {B : Hp} {vs : List V} {ds : List D} (r : DRs K B vs ds) (lo hi : Option Int) : DRs K B (cutV vs lo hi) ((ds.drop (HT.sIx ds.length 0 lo)).take (HT.sIx ds.length ds.length hi - HT.sIx ds.length 0 lo)) := by
  unfold cutV
  rw [r.length]
  exact (r.drop _).take _
theorem gSl_ok {σ : St} {H : Hp} {E : Vn} {S : Sto} {τ : List Addr} {B : Hp} {x : SV} {v : V} {lo hi : Option Int} {nv : NV} {Q : VK} (R : Rl X.K cl σ H E S τ B) (hv : SVr X.K cl τ B v x) (e : gSlS S x lo hi = some nv) (h : NVok X.K B H Q nv) :
    rSlL X.K v lo hi H Q ∨ rSlA X.K v lo hi H Q := by
  have com : on1 (gSl lo hi) S x = some nv → rSlL X.K v lo hi H Q ∨ rSlA X.K v lo hi H Q := fun e => by
    refine on1_ok (r := fun v H Q => rSlL X.K v lo hi H Q ∨ rSlA X.K v lo hi H Q) (g := gSl lo hi) (fun B H v a nv Q ex hv e h => ?_) σ H E S τ B x nv v Q R hv e h
    unfold gSl at e
    split at e
    · cases e
      obtain ⟨p, vs, rfl, h1, h2⟩ := hv.lst ex
      exact .inl ⟨p, vs, rfl, SqL.of h1, fun u hu => h u _ hu (h2.cut lo hi)⟩
    · rename_i xs
      cases e
      obtain ⟨p, vs, rfl, h1, h2⟩ := hv.tup ex
      refine .inr ⟨p, vs, rfl, h1, fun ⟨z1, z2⟩ => ?_, fun _ u hu => h.tup ex hu (h2.cut lo hi)⟩
      refine h.here ex ?_
      rw [h2.length] at z1 z2
      have e1 : (xs.drop (HT.sIx xs.length 0 lo)).take (HT.sIx xs.length xs.length hi - HT.sIx xs.length 0 lo) = xs := by
        rw [z1, z2]
        simp
      rw [e1]
      exact hv.tupB
    · cases e
  unfold gSlS at e
  cases x with
  | d d => exact com e
  | f k => exact com e
  | r i => exact com e
  | s ns =>
    cases e
    obtain ⟨a, rfl, k2⟩ := hv
    refine .inl ⟨a, ns.map V.int, rfl, Evl.ex_l R.ex k2, fun u hu => h u _ hu ?_⟩
    unfold cutV
    rw [List.length_map, ← List.map_drop, ← List.map_take]
    exact drs_ints _
theorem se_sl {lo hi : Option Expr} {ml mh : Option (M SV)} {p2 : Pos} (he : SE X cl Ex a ma) (hl : SO X cl Ex lo ml) (hh : SO X cl Ex hi mh) : SE X cl Ex (.Subscript a (.Slice lo hi none p2) pos) (mSl ml mh ma) :=
  PE_imp (pe_slice (sl_list.or sl_tupA) he (po_of hl) (po_of hh)) fun σ H Q ⟨E, S, τ, B, R, h⟩ => by
    refine tE.of R (Post.bind h) fun x S1 τ1 B1 H1 v e1 R1 hv h1 => ?_
    refine tO.of R1 ((Post.bind h1).pre e1) fun l S2 τ2 B2 H2 e2 R2 h2 => ?_
    have x2 := e1.trans e2
    refine tO.of R2 ((Post.bind h2).pre x2) fun u S3 τ3 B3 H3 e3 R3 h3 => ?_
    unfold outN at h3
    cases q : gSlS S3 x l u with
    | none => rw [q] at h3; exact h3.elim
    | some nv =>
      rw [q] at h3
      exact gSl_ok R3 (hv.mono (e2.trans e3)) q (fin_ok R (x2.trans e3) R3 h3)

/-! ### calls of built-ins -/
def a1 (g : D → Option NV) (S : Sto) : List SV → Option NV
  | [x] => on1 g S x
  | _ => none
def a2 (g : D → D → Option NV) (S : Sto) : List SV → Option NV
  | [x, y] => on2 g S x y
  | _ => none
theorem a1_ok {r : List V → Hp → VK → Prop} {g : D → Option NV} (hg : ∀ B H v a nv Q, Xs B H → DV X.K B H v a → g a = some nv → NVok X.K B H Q nv → r [v] H Q) :
    ∀ σ H E S τ B xs nv vs Q, Rl X.K cl σ H E S τ B → SVrs X.K cl τ B vs xs → a1 g S xs = some nv → NVok X.K B H Q nv → r vs H Q := fun σ H E S τ B xs nv vs Q R hv e h => by
  unfold a1 at e
  split at e
  · cases hv with
    | cons h1 h2 =>
      cases h2
      exact on1_ok (r := fun v H Q => r [v] H Q) hg σ H E S τ B _ nv _ Q R h1 e h
  · cases e
theorem a2_ok {r : List V → Hp → VK → Prop} {g : D → D → Option NV} (hg : ∀ B H v w a b nv Q, Xs B H → DV X.K B H v a → DV X.K B H w b → g a b = some nv → NVok X.K B H Q nv → r [v, w] H Q) :
    ∀ σ H E S τ B xs nv vs Q, Rl X.K cl σ H E S τ B → SVrs X.K cl τ B vs xs → a2 g S xs = some nv → NVok X.K B H Q nv → r vs H Q := fun σ H E S τ B xs nv vs Q R hv e h => by
  unfold a2 at e
  split at e
  · cases hv with
    | cons h1 h2 =>
      cases h2 with
      | cons h3 h4 =>
        cases h4
        exact on2_ok (r := fun v w H Q => r [v, w] H Q) hg σ H E S τ B _ _ nv _ _ Q R h1 h3 e h
  · cases e
/-- a built-in's rule on data -/
structure CallD (X : Cx) (cl : Str → Option Addr) (f : Value) (g : Sto → List SV → Option NV) (r : List V → Hp → VK → Prop) : Prop where
  op : CallR X f r
  ok : ∀ σ H E S τ B xs nv vs Q, Rl X.K cl σ H E S τ B → SVrs X.K cl τ B vs xs → g S xs = some nv → NVok X.K B H Q nv → r vs H Q
theorem se_callB {x : Str} {id : String} {g : Sto → List SV → Option NV} {r : List V → Hp → VK → Prop} (c : CallD X cl (.builtin id) g r) (hg : Gl X x) (hm : X.mg x = none) (hv : bootBuiltins x = some (.builtin id)) (ha : SA X cl Ex (e :: es) ms)
    (hn : x ≠ "__name__" := by decide) (hdb : (x == ("__debug__" : Str)) = false := by decide) (he : starEach (e :: es) X.env = (false, eval e X.env) :: starEach es X.env := by rfl) (hpl : (backTo pos (starEach es X.env)).any (·.1) = false := by rfl) :
    SE X cl Ex (.Call (.Name x p) (e :: es) [] pos) (mB g ms) := PE_imp (pe_callB c.op hg hm hv ha hn hdb he hpl) (mB_ok c.ok)
theorem se_callT {x : Str} {T : String} {g : Sto → List SV → Option NV} {r : List V → Hp → VK → Prop} (c : CallD X cl (.type T) g r) (hg : Gl X x) (hm : X.mg x = none) (hv : bootBuiltins x = some (.type T)) (ha : SA X cl Ex (e :: es) ms)
    (hn : x ≠ "__name__" := by decide) (hdb : (x == ("__debug__" : Str)) = false := by decide) (he : starEach (e :: es) X.env = (false, eval e X.env) :: starEach es X.env := by rfl) (hpl : (backTo pos (starEach es X.env)).any (·.1) = false := by rfl) :
    SE X cl Ex (.Call (.Name x p) (e :: es) [] pos) (mB g ms) := PE_imp (pe_callTy c.op hg hm hv ha hn hdb he hpl) (mB_ok c.ok)
def gLen : D → Option NV
  | .list xs => some (.val (.int xs.length))
  | .tuple xs => some (.val (.int xs.length))
  | .str z => if z.length ≤ sizeLine then some (.val (.int z.length)) else none
  | _ => none
theorem cd_len : CallD X cl (.builtin "len") (a1 gLen) (fun xs H Q => ∃ x n, xs = [x] ∧ LenV X.K x H n ∧ Q (.int n) H) := ⟨call_len, a1_ok fun B H v a nv Q ex hv e h => by
  unfold gLen at e
  split at e
  · cases e
    obtain ⟨p, vs, rfl, h1, h2⟩ := hv.lst ex
    refine ⟨_, _, rfl, .inl ⟨vs, SqL.of h1, rfl⟩, ?_⟩
    rw [h2.length]
    exact h.here ex (.int _)
  · cases e
    obtain ⟨p, vs, rfl, h1, h2⟩ := hv.tup ex
    refine ⟨_, _, rfl, .inr ⟨vs, h1, rfl⟩, ?_⟩
    rw [h2.length]
    exact h.here ex (.int _)
  · split at e
    · cases e
      cases hv.str
      exact ⟨_, _, rfl, ⟨by assumption, rfl⟩, h.here ex (.int _)⟩
    · cases e
  · cases e⟩
def gTupOf : D → Option NV
  | .list xs => some (.val (.tuple xs))
  | .tuple xs => some (.val (.tuple xs))
  | _ => none
theorem cd_tuple : CallD X cl (.type "tuple") (a1 gTupOf) (fun xs H Q => ∃ p ys, xs = [.ref p] ∧ ((SqL X.K H p ys ∧ ∀ l, H l = none → Q (.ref l) (upd H l (.tup ys))) ∨ (SqT X.K H p ys ∧ Q (.ref p) H))) := ⟨call_tuple_of, a1_ok fun B H v a nv Q ex hv e h => by
  unfold gTupOf at e
  split at e
  · cases e
    obtain ⟨p, vs, rfl, h1, h2⟩ := hv.lst ex
    exact ⟨p, vs, rfl, .inl ⟨SqL.of h1, fun l hl => h.tup ex hl h2⟩⟩
  · cases e
    have hb := hv.tupB
    obtain ⟨p, vs, rfl, h1, h2⟩ := hv.tup ex
    exact ⟨p, vs, rfl, .inr ⟨h1, h.here ex hb⟩⟩
  · cases e⟩
def gLstOf : D → Option NV
  | .list xs => some (.lst xs)
  | .tuple xs => some (.lst xs)
  | _ => none
theorem cd_list : CallD X cl (.type "list") (a1 gLstOf) (fun xs H Q => ∃ p ys, xs = [.ref p] ∧ (SqL X.K H p ys ∨ SqT X.K H p ys) ∧ ∀ l, H l = none → Q (.ref l) (upd H l (.lst ys))) := ⟨call_list_of, a1_ok fun B H v a nv Q ex hv e h => by
  unfold gLstOf at e
  split at e
  · cases e
    obtain ⟨p, vs, rfl, h1, h2⟩ := hv.lst ex
    exact ⟨p, vs, rfl, .inl (SqL.of h1), fun l hl => h l _ hl h2⟩
  · cases e
    obtain ⟨p, vs, rfl, h1, h2⟩ := hv.tup ex
    exact ⟨p, vs, rfl, .inr h1, fun l hl => h l _ hl h2⟩
  · cases e⟩
def gInt : D → Option NV
  | .int i => some (.val (.int i))
  | .bool k => some (.val (.int (if k then 1 else 0)))
  | _ => none
theorem cd_int : CallD X cl (.type "int") (a1 gInt) (fun xs H Q => (∃ i, xs = [.int i] ∧ Q (.int i) H) ∨ ∃ k, xs = [.bl k] ∧ Q (.int (if k then 1 else 0)) H) := ⟨call_int1, a1_ok fun B H v a nv Q ex hv e h => by
  unfold gInt at e
  split at e
  · cases e; cases hv.int
    exact .inl ⟨_, rfl, h.here ex (.int _)⟩
  · cases e; cases hv.bl
    exact .inr ⟨_, rfl, h.here ex (.int _)⟩
  · cases e⟩
def gAbs : D → Option NV
  | .int i => some (.val (.int (if i < 0 then -i else i)))
  | _ => none
theorem cd_abs : CallD X cl (.builtin "abs") (a1 gAbs) (fun xs H Q => ∃ i, xs = [.int i] ∧ Q (.int (if i < 0 then -i else i)) H) := ⟨call_abs, a1_ok fun B H v a nv Q ex hv e h => by
  unfold gAbs at e
  split at e
  · cases e; cases hv.int
    exact ⟨_, rfl, h.here ex (.int _)⟩
  · cases e⟩
def gMax2 : D → D → Option NV
  | .int i, .int j => some (.val (.int (if j > i then j else i)))
  | _, _ => none
def gMin2 : D → D → Option NV
  | .int i, .int j => some (.val (.int (if j < i then j else i)))
  | _, _ => none
theorem cd_max2 (hc : X.calm = true) : CallD X cl (.builtin "max") (a2 gMax2) (fun xs H Q => ∃ i j, xs = [.int i, .int j] ∧ Q (.int (if j > i then j else i)) H) := ⟨call_max2 hc, a2_ok fun B H v w a b nv Q ex hv hw e h => by
  unfold gMax2 at e
  split at e
  · cases e; cases hv.int; cases hw.int
    exact ⟨_, _, rfl, h.here ex (.int _)⟩
  · cases e⟩
theorem cd_min2 (hc : X.calm = true) : CallD X cl (.builtin "min") (a2 gMin2) (fun xs H Q => ∃ i j, xs = [.int i, .int j] ∧ Q (.int (if j < i then j else i)) H) := ⟨call_min2 hc, a2_ok fun B H v w a b nv Q ex hv hw e h => by
  unfold gMin2 at e
  split at e
  · cases e; cases hv.int; cases hw.int
    exact ⟨_, _, rfl, h.here ex (.int _)⟩
  · cases e⟩
def intsOf : List D → Option (List Int)
  | [] => some []
  | .int i :: r => (intsOf r).map (i :: ·)
  | _ => none
theorem intsOf_some : ∀ {ds : List D} {ns : List Int}, intsOf ds = some ns → ds = ns.map PyData.int
  | [], _, h => by cases h; rfl
  | .int i :: r, _, h => by
    unfold intsOf at h
    cases q : intsOf r with
    | none => rw [q] at h; cases h
    | some ms =>
      rw [q] at h
      cases h
      rw [intsOf_some q]
      rfl
  | .none :: _, _, h => by cases h
  | .bool _ :: _, _, h => by cases h
  | .str _ :: _, _, h => by cases h
  | .list _ :: _, _, h => by cases h
  | .tuple _ :: _, _, h => by cases h
  | .dict _ :: _, _, h => by cases h
theorem intsOf_map (ns : List Int) : intsOf (ns.map PyData.int) = some ns := by
  induction ns with
  | nil => rfl
  | cons n ns ih => rw [List.map_cons, intsOf, ih]; rfl
def blsOf : List D → Option (List Bool)
  | [] => some []
  | .bool i :: r => (blsOf r).map (i :: ·)
  | _ => none
theorem blsOf_some : ∀ {ds : List D} {ns : List Bool}, blsOf ds = some ns → ds = ns.map PyData.bool
  | [], _, h => by cases h; rfl
  | .bool i :: r, _, h => by
    unfold blsOf at h
    cases q : blsOf r with
    | none => rw [q] at h; cases h
    | some ms =>
      rw [q] at h
      cases h
      rw [blsOf_some q]
      rfl
  | .none :: _, _, h => by cases h
  | .int _ :: _, _, h => by cases h
  | .str _ :: _, _, h => by cases h
  | .list _ :: _, _, h => by cases h
  | .tuple _ :: _, _, h => by cases h
  | .dict _ :: _, _, h => by cases h
theorem blsOf_map (ns : List Bool) : blsOf (ns.map PyData.bool) = some ns := by
  induction ns with
  | nil => rfl
  | cons n ns ih => rw [List.map_cons, blsOf, ih]; rfl
def gAll : D → Option NV
  | .list xs => (blsOf xs).map fun bs => .val (.bool (bs.all id))
  | _ => none
def gAny : D → Option NV
  | .list xs => (blsOf xs).map fun bs => .val (.bool (bs.any id))
  | _ => none
def gSum : D → Option NV
  | .list xs => (intsOf xs).map fun ns => .val (.int ns.sum)
  | _ => none
theorem cd_all (hc : X.calm = true) : CallD X cl (.builtin "all") (a1 gAll) (rAll X.K) := ⟨cr_all hc, a1_ok fun B H v a nv Q ex hv e h => by
  unfold gAll at e
  split at e
  · rename_i xs
    cases q : blsOf xs with
    | none => rw [q] at e; cases e
    | some bs =>
      rw [q] at e
      cases e
      obtain ⟨p, vs, rfl, h1, h2⟩ := hv.lst ex
      rw [blsOf_some q] at h2
      rw [h2.bls] at h1
      exact ⟨p, bs, rfl, SqL.of h1, h.here ex (.bl _)⟩
  · cases e⟩
theorem cd_any (hc : X.calm = true) : CallD X cl (.builtin "any") (a1 gAny) (rAny X.K) := ⟨cr_any hc, a1_ok fun B H v a nv Q ex hv e h => by
  unfold gAny at e
  split at e
  · rename_i xs
    cases q : blsOf xs with
    | none => rw [q] at e; cases e
    | some bs =>
      rw [q] at e
      cases e
      obtain ⟨p, vs, rfl, h1, h2⟩ := hv.lst ex
      rw [blsOf_some q] at h2
      rw [h2.bls] at h1
      exact ⟨p, bs, rfl, SqL.of h1, h.here ex (.bl _)⟩
  · cases e⟩
theorem cd_sum (hc : X.calm = true) : CallD X cl (.builtin "sum") (a1 gSum) (rSum X.K) := ⟨cr_sum hc, a1_ok fun B H v a nv Q ex hv e h => by
  unfold gSum at e
  split at e
  · rename_i xs
    cases q : intsOf xs with
    | none => rw [q] at e; cases e
    | some bs =>
      rw [q] at e
      cases e
      obtain ⟨p, vs, rfl, h1, h2⟩ := hv.lst ex
      rw [intsOf_some q] at h2
      rw [h2.ints] at h1
      exact ⟨p, bs, rfl, SqL.of h1, h.here ex (.int _)⟩
  · cases e⟩

/-! ### isinstance with built-in classes -/
def tyN : D → String
  | .none => "NoneType" | .bool _ => "bool" | .int _ => "int" | .str _ => "str" | .list _ => "list" | .tuple _ => "tuple" | .dict _ => "dict"
def isTy (T : String) : D → Bool
  | .none => T == "NoneType" | .bool _ => T == "bool" || T == "int" | .int _ => T == "int" | .str _ => T == "str" | .list _ => T == "list" | .tuple _ => T == "tuple" | .dict _ => T == "dict"
def tyTab (T : String) : Bool := kitB "NoneType" T == some (T == "NoneType") && kitB "bool" T == some (T == "bool" || T == "int") && kitB "int" T == some (T == "int") && kitB "str" T == some (T == "str") && kitB "list" T == some (T == "list") && kitB "tuple" T == some (T == "tuple") && kitB "dict" T == some (T == "dict")
theorem tab_int : tyTab "int" = true := by decide +kernel
theorem tab_bool : tyTab "bool" = true := by decide +kernel
theorem tab_str : tyTab "str" = true := by decide +kernel
theorem tab_tuple : tyTab "tuple" = true := by decide +kernel
theorem tab_list : tyTab "list" = true := by decide +kernel
theorem tab_dict : tyTab "dict" = true := by decide +kernel
theorem kit_of_tab {T : String} (h : tyTab T = true) (d : D) : kitB (tyN d) T = some (isTy T d) := by
  unfold tyTab at h
  simp only [Bool.and_eq_true, beq_iff_eq] at h
  obtain ⟨⟨⟨⟨⟨⟨h1, h2⟩, h3⟩, h4⟩, h5⟩, h6⟩, h7⟩ := h
  cases d <;> assumption
theorem DV.ty {K : PySem.W.Frag} {B H : Hp} {v : V} {d : D} (ex : Xs B H) (h : DV K B H v d) : TyX K H v (.type (tyN d)) := by
  have h := h.dr ex
  cases h with
  | non => exact .base .non
  | bl b => exact .base (.bl b)
  | int i => exact .base (.int i)
  | str x => exact .base (.str x)
  | lst h1 _ => exact .base (.lst h1)
  | tup h1 _ =>
    rcases h1 with h1 | ⟨o, its, n, k1, k2, _⟩
    · rcases h1 with h1 | ⟨o, h1⟩
      · exact .base (.tup h1)
      · exact .fTuple h1
    · exact .kTuple k1 k2
def gIsi (T : String) (d : D) : Option NV := some (.val (.bool (isTy T d)))
theorem se_isi {x y : Str} {p2 : Pos} {T : String} (ht : tyTab T = true) (ha : SE X cl Ex a ma) (hg : Gl X x) (hm : X.mg x = none) (hv : bootBuiltins x = some (.builtin "isinstance")) (hg2 : Gl X y) (hm2 : X.mg y = none) (hv2 : bootBuiltins y = some (.type T))
    (hn : x ≠ "__name__" := by decide) (hdb : (x == ("__debug__" : Str)) = false := by decide) (hn2 : y ≠ "__name__" := by decide) (hdb2 : (y == ("__debug__" : Str)) = false := by decide)
    (he : starEach [a, .Name y p2] X.env = (false, eval a X.env) :: starEach [.Name y p2] X.env := by rfl) (hpl : (backTo pos (starEach [.Name y p2] X.env)).any (·.1) = false := by rfl) :
    SE X cl Ex (.Call (.Name x p) [a, .Name y p2] [] pos) (m1 (on1 (gIsi T)) ma) :=
  PE_imp (pe_callB call_isi hg hm hv (pa_cons ha (pa_cons (pe_bltn hg2 hm2 hv2 (v := .ty T) rfl hn2 hdb2) pa_nil) he) hn hdb he hpl) (m1_ok (r := fun v H Q => rIsi X.K [v, .ty T] H Q) (on1_ok fun B H v d nv Q ex hv e h => by
    cases e
    exact ⟨v, .ty T, _, _, _, rfl, .ty T, hv.ty ex, kit_ty (kit_of_tab ht d), h.here ex (.bl _)⟩))
def gIsi2 (T T' : String) (d : D) : Option NV := some (.val (.bool (isTy T d || isTy T' d)))
theorem se_isi2 {x y z : Str} {p2 p3 p4 : Pos} {k2} {T T' : String} (ht : tyTab T = true) (ht' : tyTab T' = true) (ha : SE X cl Ex a ma) (hg : Gl X x) (hm : X.mg x = none) (hv : bootBuiltins x = some (.builtin "isinstance")) (hg2 : Gl X y) (hm2 : X.mg y = none) (hv2 : bootBuiltins y = some (.type T)) (hg3 : Gl X z) (hm3 : X.mg z = none) (hv3 : bootBuiltins z = some (.type T'))
    (hn : x ≠ "__name__" := by decide) (hdb : (x == ("__debug__" : Str)) = false := by decide) (hn2 : y ≠ "__name__" := by decide) (hdb2 : (y == ("__debug__" : Str)) = false := by decide) (hn3 : z ≠ "__name__" := by decide) (hdb3 : (z == ("__debug__" : Str)) = false := by decide)
    (he : starEach [a, .Tuple [.Name y p2, .Name z p3] k2 p4] X.env = (false, eval a X.env) :: starEach [.Tuple [.Name y p2, .Name z p3] k2 p4] X.env := by rfl) (hpl : (backTo pos (starEach [.Tuple [.Name y p2, .Name z p3] k2 p4] X.env)).any (·.1) = false := by rfl) :
    SE X cl Ex (.Call (.Name x p) [a, .Tuple [.Name y p2, .Name z p3] k2 p4] [] pos) (m1 (on1 (gIsi2 T T')) ma) :=
  PE_imp (pe_callB call_isiT hg hm hv (pa_cons ha (pa_cons (pe_tup (pa_cons (pe_bltn hg2 hm2 hv2 (v := .ty T) rfl hn2 hdb2) (pa_cons (pe_bltn hg3 hm3 hv3 (v := .ty T') rfl hn3 hdb3) pa_nil))) pa_nil) he) hn hdb he hpl)
   (m1_ok (r := fun v H Q => 2 ≤ sizeLine ∧ ∀ p, H p = none → rIsiT X.K [v, .ref p] (upd H p (.tup [.ty T, .ty T'])) Q) (on1_ok fun B H v d nv Q ex hv e h => by
    cases e
    refine ⟨by decide, fun p hp => ⟨v, p, [.ty T, .ty T'], .type (tyN d), [.type T, .type T'], _, rfl, upd_same, .cons (.ty T) (.cons (.ty T') .nil), ?_, ?_, h _ _ _ (Grow.newH ex hp) (.bl _)⟩⟩
    · exact DV.ty (B := B) (ex.trans (Evl.Ex.new hp)) (by
        rcases hv with hv | ⟨a, vs, ds, e1, e2, h1, h2⟩
        · exact .inl hv
        · exact .inr ⟨a, vs, ds, e1, e2, Evl.Ex.new hp _ _ h1, h2⟩)
    · have h1 := kit_ty (K := X.K) (kit_of_tab ht d)
      have h2 := kit_ty (K := X.K) (kit_of_tab ht' d)
      refine kitAny_cons h1 (fun _ => kitAny_cons h2 (fun z2 => by rename_i z1; rw [z1, z2]; exact kitAny_nil) fun z2 => by rw [z2, Bool.or_true]) fun z1 => by rw [z1, Bool.true_or]))
end
end Z

/-! Z5: statements, targets, loops, functions. -/
namespace Z
open PySem PySem.Spec L2
open PyProof.Rows hiding St
inductive Fl where
  | nx (E : Vn) | rt (x : SV) (E : Vn) | bk (E : Vn) | ct (E : Vn)
def Fl.env : Fl → Vn
  | .nx E => E | .rt _ E => E | .bk E => E | .ct E => E
abbrev MS := M Fl
section
variable (K : PySem.W.Frag) (cl : Str → Option Addr) (Ex : WX)
def PostE {α : Type} (ev : α → Vn) (τ : List Addr) (B : Hp) (o : Out α) (G : α → Sto → St → List Addr → Hp → Hp → Prop) : Prop := match o with
  | .ok a S' => ∀ σ' H' τ' B', Xt τ B τ' B' → Rl K cl σ' H' (ev a) S' τ' B' → G a S' σ' τ' B' H'
  | .exc x S' => ∀ σ' E' H' τ' B', Xt τ B τ' B' → Rl K cl σ' H' E' S' τ' B' → ∀ C d, cl x.cls = some C → ExD K B' H' x.fs d → Ex (.ref C) d σ' H'
  | .bad => False
def GS (D : Ends) : Fl → Sto → St → List Addr → Hp → Hp → Prop := fun fl _ σ τ B H => match fl with
  | .nx _ => D.nx σ H
  | .rt x _ => ∀ v, SVr K cl τ B v x → D.rt v H
  | .bk _ => D.bk σ H
  | .ct _ => D.ct σ H
def tS (m : MS) : TS := fun D σ H => ∃ E S τ B, Rl K cl σ H E S τ B ∧ PostE K cl Ex Fl.env τ B (m E S) (GS K cl D)
end
section
variable {K : PySem.W.Frag} {cl : Str → Option Addr} {Ex : WX} {σ : St} {H H' : Hp} {E : Vn} {S : Sto} {τ : List Addr} {B B' : Hp} {α β : Type} {ev : α → Vn} {ev' : β → Vn}
theorem PostE.mono {o : Out α} {G G' : α → Sto → St → List Addr → Hp → Hp → Prop} (h : PostE K cl Ex ev τ B o G) (f : ∀ x S' σ' τ' B' H', Xt τ B τ' B' → Rl K cl σ' H' (ev x) S' τ' B' → G x S' σ' τ' B' H' → G' x S' σ' τ' B' H') : PostE K cl Ex ev τ B o G' := by
  cases o with
  | ok x S' => exact fun σ' H' τ' B' e r => f x S' σ' τ' B' H' e r (h σ' H' τ' B' e r)
  | exc x S' => exact h
  | bad => exact h
theorem PostE.pre {B0 : Hp} {τ1 : List Addr} {o : Out α} {G : α → Sto → St → List Addr → Hp → Hp → Prop} (x : Xt τ B0 τ1 B) (h : PostE K cl Ex ev τ B o G) : PostE K cl Ex ev τ1 B o G := by
  have y : Xt τ B τ1 B := ⟨x.pre, Evl.Ex.refl _⟩
  cases o with
  | ok a S' => exact fun σ' H' τ' B' e r => h σ' H' τ' B' (y.trans e) r
  | exc a S' => exact fun σ' E' H' τ' B' e r => h σ' E' H' τ' B' (y.trans e) r
  | bad => exact h
theorem PostE.adv {τ : List Addr} {B B1 : Hp} (e : Xs B B1) {o : Out α} {G : α → Sto → St → List Addr → Hp → Hp → Prop} (h : PostE K cl Ex ev τ B o G) : PostE K cl Ex ev τ B1 o G := by
  cases o with
  | ok a S' => exact fun σ' H' τ' B' e' r => h σ' H' τ' B' ⟨e'.pre, e.trans e'.ex⟩ r
  | exc a S' => exact fun σ' E' H' τ' B' e' r => h σ' E' H' τ' B' ⟨e'.pre, e.trans e'.ex⟩ r
  | bad => exact h
/-- an expression ahead -/
theorem PostE.ofBind {o : Out α} {f : α → Sto → Out β} {G : β → Sto → St → List Addr → Hp → Hp → Prop} (h : PostE K cl Ex ev' τ B (o.bind f) G) :
    Post K cl Ex σ E τ B o fun x S1 _ B1 _ => PostE K cl Ex ev' τ B1 (f x S1) G := by
  cases o with
  | ok x S1 => exact fun H1 τ1 B1 e1 r1 => PostE.adv e1.ex (show PostE K cl Ex ev' τ B (f x S1) G from h)
  | exc x S1 => exact fun H1 τ1 B1 e1 r1 => h σ E H1 τ1 B1 e1 r1
  | bad => exact h
/-- a statement ahead -/
theorem PostE.bind {o : Out α} {f : α → Sto → Out β} {G : β → Sto → St → List Addr → Hp → Hp → Prop} (h : PostE K cl Ex ev' τ B (o.bind f) G) :
    PostE K cl Ex ev τ B o fun x S1 _ _ B1 _ => PostE K cl Ex ev' τ B1 (f x S1) G := by
  cases o with
  | ok x S1 => exact fun σ1 H1 τ1 B1 e1 r1 => PostE.adv e1.ex (show PostE K cl Ex ev' τ B (f x S1) G from h)
  | exc x S1 => exact fun σ' E' H1 τ1 B1 e1 r1 => h σ' E' H1 τ1 B1 e1 r1
  | bad => exact h
theorem PostE.ok {a : α} {S : Sto} {G : α → Sto → St → List Addr → Hp → Hp → Prop} {σ' : St} {H' : Hp} {τ' : List Addr} {B' : Hp} (h : PostE K cl Ex ev τ B (.ok a S) G) (e : Xt τ B τ' B') (R : Rl K cl σ' H' (ev a) S τ' B') : G a S σ' τ' B' H' := h σ' H' τ' B' e R
theorem Rl.set {i : Nat} {v : V} {x : SV} (R : Rl K cl σ H E S τ B) (hv : SVr K cl τ B v x) : Rl K cl (σ.set i (some v)) H (E.set i (some x)) S τ B where
  ex := R.ex
  tl := R.tl
  nd := R.nd
  ob := R.ob
  sl := by rw [List.length_set, List.length_set]; exact R.sl
  sv := fun j y e => by
    by_cases z : i = j
    · subst z
      have hl : i < E.length := by
        have := (List.getElem?_eq_some_iff.mp e).1
        rwa [List.length_set] at this
      rw [List.getElem?_set_self hl] at e
      cases e
      exact ⟨v, by rw [List.getElem?_set_self (by rw [R.sl]; exact hl)], hv⟩
    · rw [List.getElem?_set_ne z] at e ⊢
      exact R.sv j y e
/-- other slots over the same store -/
theorem Rl.swap {σ1 : St} {E1 : Vn} {S1 : Sto} {τ1 : List Addr} {H1 B1 : Hp} (R : Rl K cl σ H E S τ B) (x : Xt τ B τ1 B1) (R1 : Rl K cl σ1 H1 E1 S1 τ1 B1) : Rl K cl σ H1 E S1 τ1 B1 where
  ex := R1.ex
  tl := R1.tl
  nd := R1.nd
  ob := R1.ob
  sl := R.sl
  sv := fun j y e => by
    obtain ⟨v, h1, h2⟩ := R.sv j y e
    exact ⟨v, h1, h2.mono x⟩
end
theorem PS_imp {X : Cx} {e : Stmt} {t t' : TS} (h : PS X e t) (f : ∀ D σ H, t' D σ H → t D σ H) : PS X e t' := ⟨fun pins s σ H D I q => h.run pins s σ H D I (f D σ H q)⟩
theorem PSs_imp {X : Cx} {e : List Stmt} {t t' : TS} (h : PSs X e t) (f : ∀ D σ H, t' D σ H → t D σ H) : PSs X e t' := ⟨fun pins s σ H D I q => h.run pins s σ H D I (f D σ H q)⟩
theorem PG_imp {X : Cx} {e : Expr} {t t' : TG} (h : PG X e t) (f : ∀ v σ H Q, t' v σ H Q → t v σ H Q) : PG X e t' := ⟨fun pins s σ H v u Q I r q => h.run pins s σ H v u Q I r (f v σ H Q q)⟩
theorem PGs_imp {X : Cx} {e : List Expr} {t t' : TGs} (h : PGs X e t) (f : ∀ v σ H Q, t' v σ H Q → t v σ H Q) : PGs X e t' := ⟨fun pins s σ H v u Q I r q => h.run pins s σ H v u Q I r (f v σ H Q q)⟩
theorem PI_imp {X : Cx} {tg e : Expr} {t t' : TI} (h : PI X tg e t) (f : ∀ σ H Q, t' σ H Q → t σ H Q) : PI X tg e t' := ⟨fun pins s σ H R I q => h.run pins s σ H R I (f σ H R q)⟩
theorem PI_or {X : Cx} {tg e : Expr} {t t' : TI} (h : PI X tg e t) (h' : PI X tg e t') : PI X tg e (fun σ H R => t σ H R ∨ t' σ H R) := ⟨fun pins s σ H R I q => by
  rcases q with q | q
  · exact h.run pins s σ H R I q
  · exact h'.run pins s σ H R I q⟩

section
variable {X : Cx} {cl : Str → Option Addr} {Ex : WX} {a b e : Expr} {es : List Expr} {pos p : Pos} {ma mb : M SV} {ms ms2 : MS} {st : Stmt} {rest : List Stmt}
abbrev SS (X : Cx) (cl : Str → Option Addr) (Ex : WX) (st : Stmt) (m : MS) : Prop := PS X st (tS X.K cl Ex m)
abbrev SSs (X : Cx) (cl : Str → Option Addr) (Ex : WX) (st : List Stmt) (m : MS) : Prop := PSs X st (tS X.K cl Ex m)
theorem tS.of {K : PySem.W.Frag} {σ : St} {H : Hp} {E : Vn} {S : Sto} {τ : List Addr} {B : Hp} {m : MS} {D : Ends} {G : Fl → Sto → St → List Addr → Hp → Hp → Prop} (R : Rl K cl σ H E S τ B) (h : PostE K cl Ex Fl.env τ B (m E S) G)
    (f : ∀ x S' σ' τ' B' H', Xt τ B τ' B' → Rl K cl σ' H' x.env S' τ' B' → G x S' σ' τ' B' H' → GS K cl D x S' σ' τ' B' H') : tS K cl Ex m D σ H := ⟨E, S, τ, B, R, h.mono f⟩
def mSkip : MS := fun E S => .ok (.nx E) S
def mSeq (m1 m2 : MS) : MS := fun E S => (m1 E S).bind fun fl S1 => match fl with
  | .nx E1 => m2 E1 S1
  | fl => .ok fl S1
theorem ss_nil : SSs X cl Ex [] mSkip := PSs_imp pss_nil fun D σ H ⟨E, S, τ, B, R, h⟩ => h.ok Xt.refl R
theorem ss_one (h : SS X cl Ex st ms) : SSs X cl Ex [st] ms := pss_one h
theorem ss_cons (h1 : SS X cl Ex st ms) (h2 : SSs X cl Ex rest ms2) : SSs X cl Ex (st :: rest) (mSeq ms ms2) := PSs_imp (pss_cons h1 h2) fun D σ H ⟨E, S, τ, B, R, h⟩ =>
  tS.of R (PostE.bind (ev := Fl.env) h) fun fl S1 σ1 τ1 B1 H1 e1 R1 h1 => by
    cases fl with
    | nx E1 => exact tS.of R1 (PostE.pre e1 h1) fun x S2 σ2 τ2 B2 H2 e2 R2 h2 => h2
    | rt x E1 => exact h1.ok ⟨e1.pre, Evl.Ex.refl _⟩ R1
    | bk E1 => exact h1.ok ⟨e1.pre, Evl.Ex.refl _⟩ R1
    | ct E1 => exact h1.ok ⟨e1.pre, Evl.Ex.refl _⟩ R1
def mDrop (m : M SV) : MS := fun E S => (m E S).bind fun _ S1 => .ok (.nx E) (S1.take S.length)
theorem ss_expr (he : SE X cl Ex e ma) (hs : swapsWith e none pos.line X.env = pure false := by rfl) : SS X cl Ex (.Expr e pos) (mDrop ma) := PS_imp (ps_expr he hs) fun D σ H ⟨E, S, τ, B, R, h⟩ =>
  tE.of R (PostE.ofBind h) fun x S1 τ1 B1 H1 v e1 R1 hv h1 => h1.ok ⟨⟨[], by simp⟩, Evl.Ex.refl _⟩ (R.back e1 R1)
def mRet (m : M SV) : MS := fun E S => (m E S).bind fun x S1 => .ok (.rt x E) S1
theorem ss_ret (he : SE X cl Ex e ma) : SS X cl Ex (.Return (some e) pos) (mRet ma) := PS_imp (ps_ret he) fun D σ H ⟨E, S, τ, B, R, h⟩ =>
  tE.of R (PostE.ofBind h) fun x S1 τ1 B1 H1 v e1 R1 hv h1 => h1.ok ⟨e1.pre, Evl.Ex.refl _⟩ R1 v hv
def mRetN : MS := fun E S => .ok (.rt (.d .none) E) S
theorem ss_retN : SS X cl Ex (.Return none pos) mRetN := PS_imp ps_retN fun D σ H ⟨E, S, τ, B, R, h⟩ => h.ok Xt.refl R .non .non
def mIfS (c : M Bool) (m1 m2 : MS) : MS := fun E S => (c E S).bind fun k S1 => if k then m1 E S1 else m2 E S1
theorem ss_if {c : Expr} {s1 s2 : List Stmt} {nc : M Bool} (hc : ST X cl Ex c nc) (h1 : SSs X cl Ex s1 ms) (h2 : SSs X cl Ex s2 ms2) : SS X cl Ex (.If c s1 s2 pos) (mIfS nc ms ms2) := PS_imp (ps_if hc h1 h2) fun D σ H ⟨E, S, τ, B, R, h⟩ =>
  tT.of R (PostE.ofBind h) fun k S1 τ1 B1 H1 e1 R1 h1 => by
    cases k with
    | true => exact tS.of R1 (PostE.pre e1 h1) fun x S2 σ2 τ2 B2 H2 e2 R2 h2 => h2
    | false => exact tS.of R1 (PostE.pre e1 h1) fun x S2 σ2 τ2 B2 H2 e2 R2 h2 => h2
def mBad : MS := fun _ _ => .bad
theorem ss_bad : SS X cl Ex st mBad := PS_imp ps_never fun D σ H ⟨E, S, τ, B, R, h⟩ => h
def mBk : MS := fun E S => .ok (.bk E) S
def mCt : MS := fun E S => .ok (.ct E) S
theorem ss_break : SS X cl Ex (.Break pos) mBk := PS_imp ps_break fun D σ H ⟨E, S, τ, B, R, h⟩ => h.ok Xt.refl R
theorem ss_continue : SS X cl Ex (.Continue pos) mCt := PS_imp ps_continue fun D σ H ⟨E, S, τ, B, R, h⟩ => h.ok Xt.refl R
theorem ss_pass : SS X cl Ex (.Pass pos) mSkip := PS_imp ps_pass fun D σ H ⟨E, S, τ, B, R, h⟩ => h.ok Xt.refl R

/-! ### targets -/
abbrev MG := SV → Vn → Sto → Out Vn
def tG (K : PySem.W.Frag) (cl : Str → Option Addr) (Ex : WX) (vs : List Nat) (g : MG) : TG := fun v σ H Q => ∃ E S τ B x, Rl K cl σ H E S τ B ∧ SVr K cl τ B v x ∧ PostE K cl Ex id τ B (g x E S) fun _ _ σ' _ _ H' => wipe σ' vs = wipe σ vs → Q σ' H'
abbrev MGs := List D → Vn → Sto → Out Vn
def tGs (K : PySem.W.Frag) (cl : Str → Option Addr) (Ex : WX) (vs : List Nat) (g : MGs) : TGs := fun us σ H Q => ∃ E S τ B ds, Rl K cl σ H E S τ B ∧ DRs K B us ds ∧ PostE K cl Ex id τ B (g ds E S) fun _ _ σ' _ _ H' => wipe σ' vs = wipe σ vs → Q σ' H'
abbrev SG (X : Cx) (cl : Str → Option Addr) (Ex : WX) (vs : List Nat) (e : Expr) (g : MG) : Prop := PG X e (tG X.K cl Ex vs g)
abbrev SGs (X : Cx) (cl : Str → Option Addr) (Ex : WX) (vs : List Nat) (e : List Expr) (g : MGs) : Prop := PGs X e (tGs X.K cl Ex vs g)
theorem wipe_at (σ : St) (j : Nat) : ∀ vs : List Nat, (wipe σ vs)[j]? = if j ∈ vs ∧ j < σ.length then some none else σ[j]?
  | [] => by simp [wipe]
  | v :: vs => by
    unfold wipe
    by_cases z : v = j
    · subst z
      by_cases hl : v < σ.length
      · rw [List.getElem?_set_self (by rw [wipe_length]; exact hl), if_pos ⟨List.mem_cons_self, hl⟩]
      · rw [List.getElem?_eq_none (by rw [List.length_set, wipe_length]; omega), if_neg (fun h => hl h.2), List.getElem?_eq_none (by omega)]
    · rw [List.getElem?_set_ne z, wipe_at σ j vs]
      have e : (j ∈ v :: vs ∧ j < σ.length) ↔ (j ∈ vs ∧ j < σ.length) := by
        rw [List.mem_cons]
        exact ⟨fun ⟨h1, h2⟩ => ⟨h1.resolve_left (Ne.symm z), h2⟩, fun ⟨h1, h2⟩ => ⟨.inr h1, h2⟩⟩
      simp only [e]
theorem wipe_set {σ : St} {i : Nat} {v : Option V} {vs : List Nat} (h : i ∈ vs) : wipe (σ.set i v) vs = wipe σ vs := by
  apply List.ext_getElem?
  intro j
  rw [wipe_at, wipe_at, List.length_set]
  by_cases z : j ∈ vs ∧ j < σ.length
  · rw [if_pos z, if_pos z]
  · rw [if_neg z, if_neg z]
    by_cases q : i = j
    · subst q
      have hl : ¬ i < σ.length := fun hl => z ⟨h, hl⟩
      rw [List.getElem?_eq_none (by rw [List.length_set]; omega), List.getElem?_eq_none (by omega)]
    · rw [List.getElem?_set_ne q]
def gNm (i : Nat) : MG := fun x E S => .ok (E.set i (some x)) S
theorem sg_name {i : Nat} {x : Str} {vs : List Nat} (hN : X.N.Nodup) (hi : X.N[i]? = some x) (hx : Loc X.env.scope x) (hv : i ∈ vs) (hf : X.fn x = true ∨ X.env.scope.names.lookup x = some .local := by first | exact .inl rfl | exact .inr rfl | assumption) : SG X cl Ex vs (.Name x pos) (gNm i) :=
  PG_imp (pg_name hN hi hx hf) fun v σ H Q ⟨E, S, τ, B, x, R, hv', h⟩ => h.ok Xt.refl (R.set hv') (wipe_set hv)
def gsNil : MGs := fun ds E S => match ds with
  | [] => .ok E S
  | _ => .bad
def gsCons (g : MG) (gs : MGs) : MGs := fun ds E S => match ds with
  | d :: ds => (g (.d d) E S).bind fun E1 S1 => gs ds E1 S1
  | [] => .bad
def gTp (n : Nat) (gs : MGs) : MG := fun x E S => match x with
  | .d (.tuple ds) => if ds.length = n then gs ds E S else .bad
  | _ => .bad
theorem sgs_nil {vs : List Nat} : SGs X cl Ex vs [] gsNil := PGs_imp pgs_nil fun us σ H Q ⟨E, S, τ, B, ds, R, hv, h⟩ => by
  cases hv with
  | nil => exact ⟨rfl, h.ok Xt.refl R rfl⟩
  | cons _ _ => exact h.elim
theorem sgs_cons {vs : List Nat} {g : MG} {gs : MGs} (h1 : SG X cl Ex vs e g) (h2 : SGs X cl Ex vs es gs) (hs : (assignEach (e :: es) X.env).map (·.2) = assign e X.env :: (assignEach es X.env).map (·.2) := by rfl) : SGs X cl Ex vs (e :: es) (gsCons g gs) :=
  PGs_imp (pgs_cons h1 h2 hs) fun us σ H Q ⟨E, S, τ, B, ds, R, hv, h⟩ => by
    cases hv with
    | nil => exact h.elim
    | cons hv hr =>
      refine ⟨_, _, rfl, E, S, τ, B, .d _, R, hv, (PostE.bind (ev := id) (ev' := id) h).mono fun E1 S1 σ1 τ1 B1 H1 e1 R1 h1 w1 => ?_⟩
      exact ⟨E1, S1, τ1, B1, _, R1, hr.mono e1.ex, (PostE.pre e1 h1).mono fun E2 S2 σ2 τ2 B2 H2 e2 R2 h2 w2 => h2 (w2.trans w1)⟩
theorem sg_tup {k n : Nat} {vs : List Nat} {gs : MGs} (hc : X.calm = true) (h : SGs X cl Ex vs es gs) (hn : (assignEach es X.env).length = n := by rfl) (hst : (assignEach es X.env).findIdx? (·.1) = none := by rfl) : SG X cl Ex vs (.Tuple es k pos) (gTp n gs) :=
  PG_imp (pg_tup hc h hn hst) fun v σ H Q ⟨E, S, τ, B, x, R, hv, h⟩ => by
    unfold gTp at h
    split at h
    · split at h
      · rename_i ds hl
        have hv : DR X.K B v (.tuple ds) := hv
        cases hv with
        | tup h1 h2 => exact ⟨_, _, rfl, Evl.ex_t R.ex h1, by rw [h2.length]; exact hl, E, S, τ, B, ds, R, h2, h⟩
      · exact h.elim
    · exact h.elim
def mAsg (g : MG) (m : M SV) : MS := fun E S => (m E S).bind fun x S1 => (g x E S1).bind fun E1 S2 => .ok (.nx E1) S2
theorem asg_ok {vs : List Nat} {g : MG} (D : Ends) (σ : St) (H : Hp) (h : tS X.K cl Ex (mAsg g ma) D σ H) : tAsg (tE X.K cl Ex ma) (tG X.K cl Ex vs g) D σ H := by
  obtain ⟨E, S, τ, B, R, h⟩ := h
  refine tE.of R (PostE.ofBind h) fun x S1 τ1 B1 H1 v e1 R1 hv h1 => ?_
  refine ⟨E, S1, τ1, B1, x, R1, hv, ((PostE.bind (ev := id) h1).pre e1).mono fun E2 S2 σ2 τ2 B2 H2 e2 R2 h2 _ => ?_⟩
  exact h2.ok ⟨(e1.trans e2).pre, Evl.Ex.refl _⟩ R2
theorem ss_asg {tg : Expr} {vs : List Nat} {g : MG} (he : SE X cl Ex e ma) (hg : SG X cl Ex vs tg g) (hs : swapsWithSole [tg] e pos.line X.env = pure false := by rfl) (hw : swappedStores [tg] e X.env = pure none := by rfl) (ha : (assignEach [tg] X.env).map (·.2) = [assign tg X.env] := by rfl) : SS X cl Ex (.Assign [tg] e pos) (mAsg g ma) :=
  PS_imp (ps_asg he hg hs hw ha) asg_ok
def mSet (i : Nat) (m : M SV) : MS := fun E S => (m E S).bind fun x S1 => .ok (.nx (E.set i (some x))) S1
theorem set_ok {i : Nat} (D : Ends) (σ : St) (H : Hp) (h : tS X.K cl Ex (mSet i ma) D σ H) : tAsg (tE X.K cl Ex ma) (gName i) D σ H := by
  obtain ⟨E, S, τ, B, R, h⟩ := h
  refine tE.of R (PostE.ofBind h) fun x S1 τ1 B1 H1 v e1 R1 hv h1 => ?_
  exact h1.ok ⟨e1.pre, Evl.Ex.refl _⟩ (R1.set hv)
theorem ss_set {i : Nat} {x : Str} {pos' : Pos} (hN : X.N.Nodup) (hi : X.N[i]? = some x) (hx : Loc X.env.scope x) (he : SE X cl Ex e ma) (hs : swapsWith e (some (.Name x pos')) pos.line X.env = pure false := by rfl) (hf : X.fn x = true ∨ X.env.scope.names.lookup x = some .local := by first | exact .inl rfl | exact .inr rfl | assumption) :
    SS X cl Ex (.Assign [.Name x pos'] e pos) (mSet i ma) := PS_imp (ps_set hN hi hx he hs hf) set_ok
end
end Z

/-! Z6: parallel stores, augmented stores, own lists changed, loops. -/
namespace Z
open PySem PySem.Spec L2
open PyProof.Rows hiding St
section
variable {K : PySem.W.Frag} {cl : Str → Option Addr} {σ : St} {H H' : Hp} {E : Vn} {S : Sto} {τ : List Addr} {B B' : Hp}
/-- an own object is changed -/
theorem Rl.change {i : Nat} {o' : Ob} {a : Addr} {u : HO} (R : Rl K cl σ H E S τ B) (hi : i < S.length) (ha : τ[i]? = some a) (hB : B a = none) (ho : ObR K cl B (upd H a u) a o') : Rl K cl σ (upd H a u) E (S.set i o') τ B where
  ex := fun b v q => by
    have ne : b ≠ a := fun z => by rw [z, hB] at q; cases q
    rw [upd_ne ne]
    exact R.ex b v q
  tl := by rw [List.length_set]; exact R.tl
  nd := R.nd
  ob := fun j o q => by
    by_cases z : j = i
    · subst z
      rw [List.getElem?_set_self hi] at q
      cases q
      exact ⟨a, ha, ⟨u, upd_same⟩, ho⟩
    · rw [List.getElem?_set_ne (Ne.symm z)] at q
      obtain ⟨b, k1, ⟨w, kw⟩, k3⟩ := R.ob j o q
      have ne : b ≠ a := fun e => z (get_inj R.nd (e ▸ k1) ha)
      refine ⟨b, k1, ⟨w, by rw [upd_ne ne]; exact kw⟩, ?_⟩
      cases o with
      | lst ys =>
        obtain ⟨m1, ws, m2, m3⟩ := k3
        exact ⟨m1, ws, by rw [upd_ne ne]; exact m2, m3⟩
      | frz d => exact k3
      | ins c fs =>
        obtain ⟨m1, C, dx, ws, m2, m3, m4⟩ := k3
        exact ⟨m1, C, dx, ws, m2, by rw [upd_ne ne]; exact m3, m4⟩
  sl := R.sl
  sv := R.sv
theorem Rl.own {i : Nat} {xs : List D} {v : V} (R : Rl K cl σ H E S τ B) (hv : SVr K cl τ B v (.r i)) (hi : S[i]? = some (.lst xs)) : ∃ a vs, v = .ref a ∧ τ[i]? = some a ∧ i < S.length ∧ B a = none ∧ H a = some (.lst vs) ∧ DRs K B vs xs := by
  obtain ⟨a, h1, rfl⟩ := hv
  obtain ⟨b, k1, _, k2, vs, k3, k4⟩ := R.ob i _ hi
  rw [h1] at k1
  cases k1
  exact ⟨a, vs, rfl, h1, (List.getElem?_eq_some_iff.mp hi).1, k2, k3, k4⟩
end
section
variable {X : Cx} {cl : Str → Option Addr} {Ex : WX} {a b c e o : Expr} {es : List Expr} {pos p : Pos} {ma mb mo mi : M SV} {ms : M (List SV)} {st : Stmt}

/-! ### a, b = x, y -/
def setAll (E : Vn) : List Nat → List SV → Option Vn
  | [], [] => some E
  | i :: is, x :: xs => setAll (E.set i (some x)) is xs
  | _, _ => none
def mPar (is : List Nat) (ms : M (List SV)) : MS := fun E S => (ms E S).bind fun xs S1 => match setAll E is xs with
  | some E1 => .ok (.nx E1) S1
  | none => .bad
theorem par2_ok {i j : Nat} (D : Ends) (σ : St) (H : Hp) (h : tS X.K cl Ex (mPar [i, j] ms) D σ H) : tPar i j (tA X.K cl Ex ms) D σ H := by
  obtain ⟨E, S, τ, B, R, h⟩ := h
  refine tA.of R (PostE.ofBind h) fun xs S1 τ1 B1 H1 vs e1 R1 hv h1 => ?_
  cases hv with
  | nil => exact h1.elim
  | cons v1 hr =>
    cases hr with
    | nil => exact h1.elim
    | cons v2 hr =>
      cases hr with
      | nil => exact ⟨_, _, rfl, h1.ok ⟨e1.pre, Evl.Ex.refl _⟩ ((R1.set v1).set v2)⟩
      | cons _ _ => exact h1.elim
theorem ss_par {i j : Nat} {x y : Str} {px py pt : Pos} {kt k2 pt2} (hc : X.calm = true) (hN : X.N.Nodup) (hi : X.N[i]? = some x) (hj : X.N[j]? = some y) (hij : i ≠ j)
    (hx : X.env.scope.names.lookup x = some .local) (hy : X.env.scope.names.lookup y = some .local) (ha : SA X cl Ex [a, b] ms)
    (hw : swappedStores [.Tuple [.Name x px, .Name y py] kt pt] (.Tuple [a, b] k2 pt2) X.env = pure (some [x, y]))
    (hs : swapsWithSole [.Tuple [.Name x px, .Name y py] kt pt] (.Tuple [a, b] k2 pt2) pos.line X.env = pure false := by rfl) :
    SS X cl Ex (.Assign [.Tuple [.Name x px, .Name y py] kt pt] (.Tuple [a, b] k2 pt2) pos) (mPar [i, j] ms) := PS_imp (ps_par hc hN hi hj hij hx hy ha hw hs) par2_ok
theorem par3_ok {i j l : Nat} (D : Ends) (σ : St) (H : Hp) (h : tS X.K cl Ex (mPar [i, j, l] ms) D σ H) : tPar3 i j l (tA X.K cl Ex ms) D σ H := by
  obtain ⟨E, S, τ, B, R, h⟩ := h
  refine tA.of R (PostE.ofBind h) fun xs S1 τ1 B1 H1 vs e1 R1 hv h1 => ?_
  cases hv with
  | nil => exact h1.elim
  | cons v1 hr =>
    cases hr with
    | nil => exact h1.elim
    | cons v2 hr =>
      cases hr with
      | nil => exact h1.elim
      | cons v3 hr =>
        cases hr with
        | nil => exact ⟨_, _, _, rfl, h1.ok ⟨e1.pre, Evl.Ex.refl _⟩ (((R1.set v1).set v2).set v3)⟩
        | cons _ _ => exact h1.elim
theorem ss_par3 {i j l : Nat} {x y z : Str} {px py pz pt : Pos} {kt k2 pt2} (hc : X.calm = true) (hN : X.N.Nodup) (hi : X.N[i]? = some x) (hj : X.N[j]? = some y) (hl : X.N[l]? = some z) (hij : i ≠ j) (hil : i ≠ l) (hjl : j ≠ l)
    (hx : X.env.scope.names.lookup x = some .local) (hy : X.env.scope.names.lookup y = some .local) (hz : X.env.scope.names.lookup z = some .local) (ha : SA X cl Ex [a, b, c] ms)
    (hw : swappedStores [.Tuple [.Name x px, .Name y py, .Name z pz] kt pt] (.Tuple [a, b, c] k2 pt2) X.env = pure (some [x, y, z]))
    (hs : swapsWithSole [.Tuple [.Name x px, .Name y py, .Name z pz] kt pt] (.Tuple [a, b, c] k2 pt2) pos.line X.env = pure false := by rfl) :
    SS X cl Ex (.Assign [.Tuple [.Name x px, .Name y py, .Name z pz] kt pt] (.Tuple [a, b, c] k2 pt2) pos) (mPar [i, j, l] ms) := PS_imp (ps_par3 hc hN hi hj hl hij hil hjl hx hy hz ha hw hs) par3_ok
/-- the same where the pair is built and taken apart -/
structure PNs (X : Cx) (es : List Expr) (is : List Nat) : Prop where
  run : PGs X es fun us σ H Q => us.length = is.length ∧ Q ((is.zip us).foldl (fun σ p => σ.set p.1 (some p.2)) σ) H
theorem pns_nil : PNs X [] [] := ⟨PGs_imp pgs_nil fun us σ H Q ⟨h1, h2⟩ => by
  cases us with
  | nil => exact ⟨rfl, h2⟩
  | cons _ _ => cases h1⟩
theorem pns_cons {i : Nat} {is : List Nat} {x : Str} (hN : X.N.Nodup) (hi : X.N[i]? = some x) (hx : Loc X.env.scope x) (hr : PNs X es is) (hf : X.fn x = true ∨ X.env.scope.names.lookup x = some .local := by first | exact .inl rfl | exact .inr rfl | assumption)
    (hs : (assignEach (.Name x p :: es) X.env).map (·.2) = assign (.Name x p) X.env :: (assignEach es X.env).map (·.2) := by rfl) : PNs X (.Name x p :: es) (i :: is) := ⟨PGs_imp (pgs_cons (pg_name hN hi hx hf) hr.run hs) fun us σ H Q ⟨h1, h2⟩ => by
  cases us with
  | nil => cases h1
  | cons u us => exact ⟨u, us, rfl, Nat.succ.inj h1, h2⟩⟩
theorem setAll_ok {K : PySem.W.Frag} {H : Hp} {S : Sto} {τ : List Addr} {B : Hp} : ∀ {is : List Nat} {vs : List V} {xs : List SV} {σ : St} {E E1 : Vn}, SVrs K cl τ B vs xs → setAll E is xs = some E1 → Rl K cl σ H E S τ B → vs.length = is.length ∧ Rl K cl ((is.zip vs).foldl (fun σ p => σ.set p.1 (some p.2)) σ) H E1 S τ B
  | [], _, _, _, _, _, .nil, h, R => by cases h; exact ⟨rfl, R⟩
  | [], _, _, _, _, _, .cons _ _, h, R => by cases h
  | _ :: _, _, _, _, _, _, .nil, h, R => by cases h
  | i :: is, v :: vs, x :: xs, σ, E, E1, .cons hv hr, h, R => by
    obtain ⟨h1, h2⟩ := setAll_ok hr (show setAll (E.set i (some x)) is xs = some E1 from h) (R.set hv)
    exact ⟨congrArg (· + 1) h1, h2⟩
theorem ss_parT {is : List Nat} {ts : List Expr} {n : Nat} {pt pt2 : Pos} {kt k2} (hc : X.calm = true) (ha : SA X cl Ex es ms) (hp : PNs X ts is) (hn : (assignEach ts X.env).length = n := by rfl) (hl : is.length = n := by rfl) (hz : n ≤ sizeLine := by decide) (hst : (assignEach ts X.env).findIdx? (·.1) = none := by rfl)
    (hs : swapsWithSole [.Tuple ts kt pt] (.Tuple es k2 pt2) pos.line X.env = pure false := by rfl) (hw : swappedStores [.Tuple ts kt pt] (.Tuple es k2 pt2) X.env = pure none := by rfl) :
    SS X cl Ex (.Assign [.Tuple ts kt pt] (.Tuple es k2 pt2) pos) (mPar is ms) := PS_imp (ps_asg (pe_tup ha) (pg_tup hc hp.run hn hst) hs hw) fun D σ H ⟨E, S, τ, B, R, h⟩ => by
  refine tA.of R (PostE.ofBind h) fun xs S1 τ1 B1 H1 vs e1 R1 hv h1 => ?_
  cases q : setAll E is xs with
  | none => rw [q] at h1; exact h1.elim
  | some E1 =>
    rw [q] at h1
    obtain ⟨h2, R2⟩ := setAll_ok hv q R1
    refine ⟨by rw [h2, hl]; exact hz, fun t ht => ⟨t, vs, rfl, SqT.of upd_same, by rw [h2, hl], h2, ?_⟩⟩
    exact h1.ok ⟨e1.pre, Evl.Ex.refl _⟩ (R2.grow (Grow.newH R1.ex ht))

/-! ### x op= e -/
def gIp (op : Operator) : D → D → Option D
  | .int i, .int j => match op with
    | .Add => some (.int (i + j))
    | .Sub => some (.int (i - j))
    | _ => none
  | _, _ => none
def mAug (i : Nat) (op : Operator) (m : M SV) : MS := fun E S => match E[i]? with
  | some (some x) => (m E S).bind fun y S1 => match (rd S x).bind fun p => (rd S1 y).bind fun q => gIp op p q with
    | some z => .ok (.nx (E.set i (some (.d z)))) (S1.take S.length)
    | none => .bad
  | _ => .bad
theorem ipI_or : PIp X .Add (ipI fun i j => i + j) ∧ PIp X .Sub (ipI fun i j => i - j) := ⟨ip_add, ip_sub⟩
theorem gIp_int {op : Operator} {p q z : D} (h : gIp op p q = some z) : ∃ i j, p = .int i ∧ q = .int j ∧ ((op = .Add ∧ z = .int (i + j)) ∨ (op = .Sub ∧ z = .int (i - j))) := by
  unfold gIp at h
  split at h
  · split at h
    · cases h; exact ⟨_, _, rfl, rfl, .inl ⟨rfl, rfl⟩⟩
    · cases h; exact ⟨_, _, rfl, rfl, .inr ⟨rfl, rfl⟩⟩
    · cases h
  · cases h
theorem aug_ok {i : Nat} {op : Operator} {f : Int → Int → Int} (hf : ∀ i j z, gIp op (.int i) (.int j) = some z → z = .int (f i j)) (D : Ends) (σ : St) (H : Hp) (h : tS X.K cl Ex (mAug i op ma) D σ H) : tAug i (tE X.K cl Ex ma) (ipI f) D σ H := by
  obtain ⟨E, S, τ, B, R, h⟩ := h
  unfold mAug at h
  cases q : E[i]? with
  | none => rw [q] at h; exact h.elim
  | some o =>
    cases o with
    | none => rw [q] at h; exact h.elim
    | some x =>
      rw [q] at h
      dsimp only at h
      obtain ⟨v, h1, h2⟩ := R.sv i x q
      refine ⟨v, h1, tE.of R (PostE.ofBind h) fun y S1 τ1 B1 H1 w e1 R1 hw k1 => ?_⟩
      cases q1 : rd S x with
      | none => rw [q1] at k1; exact k1.elim
      | some d1 =>
        cases q2 : rd S1 y with
        | none => rw [q1, q2] at k1; exact k1.elim
        | some d2 =>
          rw [q1, q2] at k1
          simp only [Option.bind_some] at k1
          cases q3 : gIp op d1 d2 with
          | none => rw [q3] at k1; exact k1.elim
          | some z =>
            rw [q3] at k1
            obtain ⟨i', j', rfl, rfl, _⟩ := gIp_int q3
            cases (R.dv h2 q1).int
            cases (R1.dv hw q2).int
            cases hf _ _ _ q3
            exact ⟨i', j', rfl, rfl, k1.ok ⟨⟨[], by simp⟩, Evl.Ex.refl _⟩ ((R.back e1 R1).set (.int _))⟩
theorem ss_augAdd {i : Nat} {x : Str} {pos' : Pos} (hN : X.N.Nodup) (hi : X.N[i]? = some x) (hx : Loc X.env.scope x) (he : SE X cl Ex e ma) (hf : X.fn x = true ∨ X.env.scope.names.lookup x = some .local := by first | exact .inl rfl | exact .inr rfl | assumption) :
    SS X cl Ex (.AugAssign (.Name x pos') .Add e pos) (mAug i .Add ma) := PS_imp (ps_aug hN hi hx he ip_add hf) (aug_ok fun i j z h => by cases h; rfl)
theorem ss_augSub {i : Nat} {x : Str} {pos' : Pos} (hN : X.N.Nodup) (hi : X.N[i]? = some x) (hx : Loc X.env.scope x) (he : SE X cl Ex e ma) (hf : X.fn x = true ∨ X.env.scope.names.lookup x = some .local := by first | exact .inl rfl | exact .inr rfl | assumption) :
    SS X cl Ex (.AugAssign (.Name x pos') .Sub e pos) (mAug i .Sub ma) := PS_imp (ps_aug hN hi hx he ip_sub hf) (aug_ok fun i j z h => by cases h; rfl)

/-! ### o[i] = e and o[i] += e, own lists -/
def setL (S : Sto) (o i : SV) (d : D) : Option Sto := match o with
  | .r k => match S[k]? with
    | some (.lst xs) => match rd S i with
      | some (.int j) => (ixN xs.length j).map fun n => S.set k (.lst (xs.set n d))
      | _ => none
    | _ => none
  | _ => none
theorem setL_ok {σ : St} {H : Hp} {E : Vn} {S S' : Sto} {τ : List Addr} {B : Hp} {o i : SV} {d : D} {v w u : V} {Q : Hp → Prop} (R : Rl X.K cl σ H E S τ B) (ho : SVr X.K cl τ B v o) (hi : SVr X.K cl τ B w i) (hd : DR X.K B u d) (h : setL S o i d = some S')
    (k : ∀ H', Rl X.K cl σ H' E S' τ B → Q H') : rSetL v w u H Q := by
  unfold setL at h
  cases o with
  | d _ => cases h
  | f _ => cases h
  | s _ => cases h
  | r n =>
    dsimp only at h
    split at h
    · rename_i xs q
      split at h
      · rename_i j q2
        cases q3 : ixN xs.length j with
        | none => rw [q3] at h; cases h
        | some m =>
          rw [q3] at h
          cases h
          obtain ⟨a, vs, rfl, h1, h2, h3, h4, h5⟩ := R.own ho q
          cases (R.dv hi q2).int
          exact ⟨a, vs, j, m, rfl, rfl, h4, by rw [h5.length]; exact q3, k _ (R.change h2 h1 h3 ⟨h3, _, upd_same, h5.set m hd⟩)⟩
      · cases h
    · cases h
/-- o[i] = e: the value first -/
def mSetIx (mo mi m : M SV) : MS := fun E S => (m E S).bind fun x S1 => (mo E S1).bind fun o S2 => (mi E S2).bind fun i S3 => match x with
  | .d d => match setL S3 o i d with
    | some S4 => .ok (.nx E) (S4.take S.length)
    | none => .bad
  | _ => .bad
theorem ss_setIx {tpos : Pos} {i : Expr} (he : SE X cl Ex e ma) (ho : SE X cl Ex o mo) (hi : SE X cl Ex i mi) (hs : swapsWithSole [.Subscript o i tpos] e pos.line X.env = pure false := by rfl) (hw : swappedStores [.Subscript o i tpos] e X.env = pure none := by rfl)
    (ha : (assignEach [.Subscript o i tpos] X.env).map (·.2) = [assign (.Subscript o i tpos) X.env] := by rfl)
    (hb : ∀ v, assign (.Subscript o i tpos) X.env v = (do
      let ov ← holding [v] (eval o X.env)
      let iv ← holding [v, ov] (eval i X.env)
      standAt tpos
      holding [v, ov, iv] (setItem ov iv v)
      release [v, ov, iv] []) := by intro _; rfl) : SS X cl Ex (.Assign [.Subscript o i tpos] e pos) (mSetIx mo mi ma) :=
  PS_imp (ps_asg he (pg_sub ho hi set_list hb) hs hw ha) fun D σ H ⟨E, S, τ, B, R, h⟩ => by
    refine tE.of R (PostE.ofBind h) fun x S1 τ1 B1 H1 u e1 R1 hx h1 => ?_
    refine tE.of R1 ((PostE.ofBind h1).pre e1) fun o' S2 τ2 B2 H2 v e2 R2 ho' h2 => ?_
    have x2 := e1.trans e2
    refine tE.of R2 ((PostE.ofBind h2).pre x2) fun i' S3 τ3 B3 H3 w e3 R3 hi' h3 => ?_
    have x3 := x2.trans e3
    cases x with
    | r _ => exact h3.elim
    | f _ => exact h3.elim
    | s _ => exact h3.elim
    | d d =>
      dsimp only at h3
      cases q : setL S3 o' i' d with
      | none => rw [q] at h3; exact h3.elim
      | some S4 =>
        rw [q] at h3
        exact setL_ok R3 (ho'.mono e3) hi' (DR.mono (e2.trans e3).ex hx) q fun H4 R4 => h3.ok ⟨⟨[], by simp⟩, Evl.Ex.refl _⟩ (R.back x3 R4)
def tGetL (K : PySem.W.Frag) : V → V → Hp → VK → Prop := fun o i H Q => rIxL K o i H Q
theorem get_list : PGet X (tGetL X.K) := by
  intro pins s σ H o i ov iv Q I ro ri h
  obtain ⟨p, xs, i, z, rfl, rfl, hq, he, q⟩ := h
  cases ro
  obtain ⟨t, rfl⟩ := ri
  obtain ⟨its, r, pl, hz⟩ := I.list hq
  obtain ⟨j, h1, h2, h3, h4, h5⟩ := atI_get he
  obtain ⟨w, ew, rw'⟩ := r.get h2
  have hl := r.length
  have hn := line63
  have fin : EP X pins σ Q w s := ⟨z, H, I, rw', q⟩
  by_cases h0 : 0 ≤ i
  · have hj : i.toNat = j := by
      rw [seqIndex_of h0 h5] at h1
      exact Option.some.inj h1
    exact wpAny_getItem_list pl.isList h0 (by omega) (by rw [hj]; simpa using ew) fin
  · have hj : (i + (its.toArray.size : Int)).toNat = j := by
      rw [seqIndex_neg (by omega) h4] at h1
      rw [List.size_toArray, ← hl]
      exact Option.some.inj h1
    exact wpAny_getItem_list_neg pl.isList (by omega) (by rw [List.size_toArray] <;> omega) (by omega) (by rw [hj]; simpa using ew) fin
def getL (S : Sto) (o i : SV) : Option D := match o with
  | .r k => match S[k]? with
    | some (.lst xs) => match rd S i with
      | some (.int j) => atI xs j
      | _ => none
    | _ => none
  | _ => none
def mAugIx (op : Operator) (mo mi m : M SV) : MS := fun E S => (mo E S).bind fun o S1 => (mi E S1).bind fun i S2 => match getL S2 o i with
  | some p => (m E S2).bind fun y S3 => match (rd S3 y).bind fun q => gIp op p q with
    | some z => match setL S3 o i z with
      | some S4 => .ok (.nx E) (S4.take S.length)
      | none => .bad
    | none => .bad
  | none => .bad
theorem augIx_ok {op : Operator} {f : Int → Int → Int} (hf : ∀ i j z, gIp op (.int i) (.int j) = some z → z = .int (f i j)) (D : Ends) (σ : St) (H : Hp) (h : tS X.K cl Ex (mAugIx op mo mi ma) D σ H) : tAugS (tE X.K cl Ex mo) (tE X.K cl Ex mi) (tE X.K cl Ex ma) (tGetL X.K) (ipI f) rSetL D σ H := by
  obtain ⟨E, S, τ, B, R, h⟩ := h
  refine tE.of R (PostE.ofBind h) fun o' S1 τ1 B1 H1 v e1 R1 ho' h1 => ?_
  refine tE.of R1 ((PostE.ofBind h1).pre e1) fun i' S2 τ2 B2 H2 w e2 R2 hi' h2 => ?_
  have x2 := e1.trans e2
  have ho2 := ho'.mono e2
  cases q : getL S2 o' i' with
  | none => rw [q] at h2; exact h2.elim
  | some p =>
    rw [q] at h2
    dsimp only at h2
    have fin : ∀ u, DR X.K B2 u p → tE X.K cl Ex ma σ H2 fun y H4 => ipI f u y H4 fun z H5 => rSetL v w z H5 fun H6 => D.nx σ H6 := fun u hu => by
      refine tE.of R2 ((PostE.ofBind h2).pre x2) fun y S3 τ3 B3 H3 u2 e3 R3 hy h3 => ?_
      have x3 := x2.trans e3
      cases q3 : rd S3 y with
      | none => rw [q3] at h3; exact h3.elim
      | some d3 =>
        rw [q3] at h3
        simp only [Option.bind_some] at h3
        cases q4 : gIp op p d3 with
        | none => rw [q4] at h3; exact h3.elim
        | some z =>
          rw [q4] at h3
          dsimp only at h3
          obtain ⟨i0, j0, rfl, rfl, _⟩ := gIp_int q4
          cases hu
          cases (R3.dv hy q3).int
          cases hf _ _ _ q4
          refine ⟨i0, j0, rfl, rfl, ?_⟩
          cases q5 : setL S3 o' i' (.int (f i0 j0)) with
          | none => rw [q5] at h3; exact h3.elim
          | some S4 =>
            rw [q5] at h3
            exact setL_ok R3 (ho2.mono e3) (hi'.mono e3) (.int _) q5 fun H4 R4 => h3.ok ⟨⟨[], by simp⟩, Evl.Ex.refl _⟩ (R.back x3 R4)
    unfold getL at q
    cases o' with
    | d _ => cases q
    | f _ => cases q
    | s _ => cases q
    | r n =>
      dsimp only at q
      split at q
      · rename_i xs q1
        split at q
        · rename_i j q2
          obtain ⟨a, vs, rfl, k1, k2, k3, k4, k5⟩ := R2.own ho2 q1
          cases (R2.dv hi' q2).int
          obtain ⟨u, m1, m2⟩ := k5.atI q
          exact ⟨a, vs, j, u, rfl, rfl, SqL.of k4, m1, fin u m2⟩
        · cases q
      · cases q
theorem ss_augIx {op : Operator} {f : Int → Int → Int} {tpos : Pos} {i : Expr} (hp : PIp X op (ipI f)) (hf : ∀ i j z, gIp op (.int i) (.int j) = some z → z = .int (f i j)) (ho : SE X cl Ex o mo) (hi : SE X cl Ex i mi) (he : SE X cl Ex e ma)
    (ha : ∀ ov iv new, augStore i ov iv new = (do holding [new, ov, iv] (setItem ov iv new); release [new, ov, iv] []; pure .next) := by intros; rfl) : SS X cl Ex (.AugAssign (.Subscript o i tpos) op e pos) (mAugIx op mo mi ma) :=
  PS_imp (ps_augS ho hi get_list he hp set_list ha) (augIx_ok hf)
theorem ss_augIxAdd {tpos : Pos} {i : Expr} (ho : SE X cl Ex o mo) (hi : SE X cl Ex i mi) (he : SE X cl Ex e ma)
    (ha : ∀ ov iv new, augStore i ov iv new = (do holding [new, ov, iv] (setItem ov iv new); release [new, ov, iv] []; pure .next) := by intros; rfl) : SS X cl Ex (.AugAssign (.Subscript o i tpos) .Add e pos) (mAugIx .Add mo mi ma) :=
  ss_augIx ip_add (fun i j z h => by cases h; rfl) ho hi he ha

/-! ### methods of own lists -/
/-- a method of an own list: the list's new items, what it hands back -/
def mtF (f : Sto → List D → List SV → Option (List D × D)) (n k : Nat) (xs : List SV) (S : Sto) : Out SV := match S[k]? with
  | some (.lst ys) => match f S ys xs with
    | some (zs, d) => .ok (.d d) ((S.set k (.lst zs)).take n)
    | none => .bad
  | _ => .bad
def mMt (f : Sto → List D → List SV → Option (List D × D)) (mo : M SV) (ms : M (List SV)) : M SV := fun E S => (mo E S).bind fun o S1 => match o with
  | .r k => match S1[k]? with
    | some (.lst _) => (ms E S1).bind fun xs S2 => mtF f S.length k xs S2
    | _ => .bad
  | _ => .bad
theorem mtF_ok {f : Sto → List D → List SV → Option (List D × D)} {σ : St} {H H2 : Hp} {E : Vn} {S S2 : Sto} {τ τ2 : List Addr} {B B2 : Hp} {k : Nat} {xs : List SV} {v : V} {vs : List V} {Q : VK} {r : V → List V → Hp → VK → Prop}
    (hf : ∀ σ H E S τ B a us ys xs vs zs d Q, Rl X.K cl σ H E S τ B → B a = none → H a = some (.lst us) → DRs X.K B us ys → SVrs X.K cl τ B vs xs → f S ys xs = some (zs, d) → (∀ ws w, DRs X.K B ws zs → DR X.K B w d → Q w (upd H a (.lst ws))) → r (.ref a) vs H Q)
    (R : Rl X.K cl σ H E S τ B) (x2 : Xt τ B τ2 B2) (R2 : Rl X.K cl σ H2 E S2 τ2 B2) (ho : SVr X.K cl τ2 B2 v (.r k)) (hs : SVrs X.K cl τ2 B2 vs xs)
    (h : Post X.K cl Ex σ E τ B2 (mtF f S.length k xs S2) fun x _ τ' B' H' => ∀ v, SVr X.K cl τ' B' v x → Q v H') : r v vs H2 Q := by
  unfold mtF at h
  split at h
  · rename_i ys q
    split at h
    · rename_i zs d q2
      obtain ⟨a, us, rfl, k1, k2, k3, k4, k5⟩ := R2.own ho q
      refine hf _ _ _ _ _ _ a us ys xs vs zs d Q R2 k3 k4 k5 hs q2 fun ws w hw hd => ?_
      exact h (upd H2 a (.lst ws)) τ B2 ⟨⟨[], by simp⟩, Evl.Ex.refl _⟩ (R.back x2 (R2.change k2 k1 k3 ⟨k3, ws, upd_same, hw⟩)) w hd
    · exact h.elim
  · exact h.elim
theorem mMt_ok {r : V → List V → Hp → VK → Prop} {f : Sto → List D → List SV → Option (List D × D)}
    (hf : ∀ σ H E S τ B a us ys xs vs zs d Q, Rl X.K cl σ H E S τ B → B a = none → H a = some (.lst us) → DRs X.K B us ys → SVrs X.K cl τ B vs xs → f S ys xs = some (zs, d) → (∀ ws w, DRs X.K B ws zs → DR X.K B w d → Q w (upd H a (.lst ws))) → r (.ref a) vs H Q)
    (σ : St) (H : Hp) (Q : VK) (h : tE X.K cl Ex (mMt f mo ms) σ H Q) : tBM X.K "list" r (tE X.K cl Ex mo) (tA X.K cl Ex ms) σ H Q := by
  obtain ⟨E, S, τ, B, R, h⟩ := h
  refine tE.of R (Post.bind h) fun o' S1 τ1 B1 H1 v e1 R1 ho h1 => ?_
  cases o' with
  | d d => exact h1.elim
  | f _ => exact h1.elim
  | s _ => exact h1.elim
  | r k =>
    dsimp only at h1
    split at h1
    · rename_i xs q
      obtain ⟨a, us, rfl, k1, k2, k3, k4, k5⟩ := R1.own ho q
      refine ⟨.inl ⟨rfl, us, SqL.of k4⟩, tA.of R1 ((Post.bind h1).pre e1) fun xs S2 τ2 B2 H2 vs e2 R2 hs h2 => ?_⟩
      exact mtF_ok hf R (e1.trans e2) R2 (ho.mono e2) hs h2
    · exact h1.elim
theorem mMt0_ok {r : V → List V → Hp → VK → Prop} {f : Sto → List D → List SV → Option (List D × D)}
    (hf : ∀ σ H E S τ B a us ys xs vs zs d Q, Rl X.K cl σ H E S τ B → B a = none → H a = some (.lst us) → DRs X.K B us ys → SVrs X.K cl τ B vs xs → f S ys xs = some (zs, d) → (∀ ws w, DRs X.K B ws zs → DR X.K B w d → Q w (upd H a (.lst ws))) → r (.ref a) vs H Q)
    (σ : St) (H : Hp) (Q : VK) (h : tE X.K cl Ex (mMt f mo mNil) σ H Q) : tBM0 X.K "list" r (tE X.K cl Ex mo) σ H Q := by
  obtain ⟨E, S, τ, B, R, h⟩ := h
  refine tE.of R (Post.bind h) fun o' S1 τ1 B1 H1 v e1 R1 ho h1 => ?_
  cases o' with
  | d d => exact h1.elim
  | f _ => exact h1.elim
  | s _ => exact h1.elim
  | r k =>
    dsimp only at h1
    split at h1
    · rename_i xs q
      obtain ⟨a, us, rfl, k1, k2, k3, k4, k5⟩ := R1.own ho q
      exact ⟨.inl ⟨rfl, us, SqL.of k4⟩, mtF_ok hf R e1 R1 ho .nil h1⟩
    · exact h1.elim
def fApp (_ : Sto) (ys : List D) : List SV → Option (List D × D)
  | [.d x] => if ys.length < sizeLine then some (ys ++ [x], .none) else none
  | _ => none
theorem ss_list_rules : True := trivial
theorem app_ok (σ : St) (H : Hp) (E : Vn) (S : Sto) (τ : List Addr) (B : Hp) (a : Addr) (us : List V) (ys : List D) (xs : List SV) (vs : List V) (zs : List D) (d : D) (Q : VK) (R : Rl X.K cl σ H E S τ B) (h1 : B a = none) (h2 : H a = some (.lst us)) (h3 : DRs X.K B us ys) (h4 : SVrs X.K cl τ B vs xs)
    (h5 : fApp S ys xs = some (zs, d)) (h6 : ∀ ws w, DRs X.K B ws zs → DR X.K B w d → Q w (upd H a (.lst ws))) : rAppend (.ref a) vs H Q := by
  unfold fApp at h5
  split at h5
  · split at h5
    · rename_i hl
      cases h5
      cases h4 with
      | cons hx hr =>
        cases hr
        exact ⟨a, us, _, rfl, rfl, h2, by rw [h3.length]; exact hl, h6 _ _ (h3.app (.cons hx .nil)) .non⟩
    · cases h5
  · cases h5
def fExt (S : Sto) (ys : List D) : List SV → Option (List D × D)
  | [x] => match rd S x with
    | some (.list zs) => if ys.length + zs.length ≤ sizeLine then some (ys ++ zs, .none) else none
    | _ => none
  | _ => none
theorem ext_ok (σ : St) (H : Hp) (E : Vn) (S : Sto) (τ : List Addr) (B : Hp) (a : Addr) (us : List V) (ys : List D) (xs : List SV) (vs : List V) (zs : List D) (d : D) (Q : VK) (R : Rl X.K cl σ H E S τ B) (h1 : B a = none) (h2 : H a = some (.lst us)) (h3 : DRs X.K B us ys) (h4 : SVrs X.K cl τ B vs xs)
    (h5 : fExt S ys xs = some (zs, d)) (h6 : ∀ ws w, DRs X.K B ws zs → DR X.K B w d → Q w (upd H a (.lst ws))) : rExtend (.ref a) vs H Q := by
  unfold fExt at h5
  split at h5
  · split at h5
    · rename_i zs' q
      split at h5
      · rename_i hl
        cases h5
        cases h4 with
        | cons hx hr =>
          cases hr
          obtain ⟨b, ws, rfl, k1, k2⟩ := (R.dv hx q).lst R.ex
          exact ⟨a, b, us, ws, rfl, rfl, h2, k1, by rw [h3.length, k2.length]; exact hl, h6 _ _ (h3.app k2) .non⟩
      · cases h5
    · cases h5
  · cases h5
def fPop (_ : Sto) (ys : List D) : List SV → Option (List D × D)
  | [] => (ys[ys.length - 1]?).map fun d => (ys.dropLast, d)
  | _ => none
theorem DRs.dropLast {K : PySem.W.Frag} {B : Hp} {vs : List V} {ds : List D} (h : DRs K B vs ds) : DRs K B vs.dropLast ds.dropLast := by
  rw [List.dropLast_eq_take, List.dropLast_eq_take, h.length]
  exact h.take _
theorem pop_ok (σ : St) (H : Hp) (E : Vn) (S : Sto) (τ : List Addr) (B : Hp) (a : Addr) (us : List V) (ys : List D) (xs : List SV) (vs : List V) (zs : List D) (d : D) (Q : VK) (R : Rl X.K cl σ H E S τ B) (h1 : B a = none) (h2 : H a = some (.lst us)) (h3 : DRs X.K B us ys) (h4 : SVrs X.K cl τ B vs xs)
    (h5 : fPop S ys xs = some (zs, d)) (h6 : ∀ ws w, DRs X.K B ws zs → DR X.K B w d → Q w (upd H a (.lst ws))) : rPop (.ref a) vs H Q := by
  unfold fPop at h5
  split at h5
  · cases q : ys[ys.length - 1]? with
    | none => rw [q] at h5; cases h5
    | some y =>
      rw [q] at h5
      cases h5
      cases h4
      obtain ⟨v, k1, k2⟩ := h3.get q
      exact ⟨a, us, v, rfl, rfl, h2, by rw [h3.length]; exact k1, h6 _ _ h3.dropLast k2⟩
  · cases h5
def fPopAt (S : Sto) (ys : List D) : List SV → Option (List D × D)
  | [x] => match rd S x with
    | some (.int i) => if -(2 ^ 63) ≤ i ∧ i < 2 ^ 63 then (seqIndex? i ys.length).bind fun k => (ys[k]?).map fun d => (ys.eraseIdx k, d) else none
    | _ => none
  | _ => none
theorem popAt_ok (σ : St) (H : Hp) (E : Vn) (S : Sto) (τ : List Addr) (B : Hp) (a : Addr) (us : List V) (ys : List D) (xs : List SV) (vs : List V) (zs : List D) (d : D) (Q : VK) (R : Rl X.K cl σ H E S τ B) (h1 : B a = none) (h2 : H a = some (.lst us)) (h3 : DRs X.K B us ys) (h4 : SVrs X.K cl τ B vs xs)
    (h5 : fPopAt S ys xs = some (zs, d)) (h6 : ∀ ws w, DRs X.K B ws zs → DR X.K B w d → Q w (upd H a (.lst ws))) : rPopAt (.ref a) vs H Q := by
  unfold fPopAt at h5
  split at h5
  · split at h5
    · rename_i i q
      split at h5
      · rename_i hb
        cases q2 : seqIndex? i ys.length with
        | none => rw [q2] at h5; cases h5
        | some k =>
          rw [q2, Option.bind_some] at h5
          cases q3 : ys[k]? with
          | none => rw [q3] at h5; cases h5
          | some y =>
            rw [q3] at h5
            cases h5
            cases h4 with
            | cons hx hr =>
              cases hr
              cases (R.dv hx q).int
              obtain ⟨v, k1, k2⟩ := h3.get q3
              exact ⟨a, us, i, k, v, rfl, rfl, h2, hb.1, hb.2, by rw [h3.length]; exact q2, k1, h6 _ _ (h3.erase k) k2⟩
      · cases h5
    · cases h5
  · cases h5
section
variable {apos cpos : Pos}
theorem se_append (ho : SE X cl Ex o mo) (ha : SA X cl Ex (e :: es) ms) (hbase : attributeBase o "append" X.env (eval o X.env) = eval o X.env := by rfl)
    (hfew : ((backTo cpos (starEach (e :: es) X.env)).all (fun x => !x.1) && (backToKw cpos (keywordEach [] X.env)).all (fun x => x.1.isSome) && decide ((e :: es).length + ([] : List Keyword).length + (if ([] : List Keyword).isEmpty then 0 else 1) < 30)) = true := by rfl)
    (hline : (apos.endLine == cpos.line) = true := by rfl) (hs : starEach (e :: es) X.env = (false, eval e X.env) :: starEach es X.env := by rfl) (hplain : (backTo cpos (starEach es X.env)).any (·.1) = false := by rfl) :
    SE X cl Ex (.Call (.Attribute o "append" apos) (e :: es) [] cpos) (mMt fApp mo ms) := PE_imp (pe_bm PySem.F.plainAttrs_list PySem.F.slot_list_append PySem.F.type_list_append mt_append ho ha hbase hfew hline hs hplain) (mMt_ok app_ok)
theorem se_extend (ho : SE X cl Ex o mo) (ha : SA X cl Ex (e :: es) ms) (hbase : attributeBase o "extend" X.env (eval o X.env) = eval o X.env := by rfl)
    (hfew : ((backTo cpos (starEach (e :: es) X.env)).all (fun x => !x.1) && (backToKw cpos (keywordEach [] X.env)).all (fun x => x.1.isSome) && decide ((e :: es).length + ([] : List Keyword).length + (if ([] : List Keyword).isEmpty then 0 else 1) < 30)) = true := by rfl)
    (hline : (apos.endLine == cpos.line) = true := by rfl) (hs : starEach (e :: es) X.env = (false, eval e X.env) :: starEach es X.env := by rfl) (hplain : (backTo cpos (starEach es X.env)).any (·.1) = false := by rfl) :
    SE X cl Ex (.Call (.Attribute o "extend" apos) (e :: es) [] cpos) (mMt fExt mo ms) := PE_imp (pe_bm PySem.F.plainAttrs_list PySem.F.slot_list_extend PySem.F.type_list_extend mt_extend ho ha hbase hfew hline hs hplain) (mMt_ok ext_ok)
theorem se_popAt (ho : SE X cl Ex o mo) (ha : SA X cl Ex (e :: es) ms) (hbase : attributeBase o "pop" X.env (eval o X.env) = eval o X.env := by rfl)
    (hfew : ((backTo cpos (starEach (e :: es) X.env)).all (fun x => !x.1) && (backToKw cpos (keywordEach [] X.env)).all (fun x => x.1.isSome) && decide ((e :: es).length + ([] : List Keyword).length + (if ([] : List Keyword).isEmpty then 0 else 1) < 30)) = true := by rfl)
    (hline : (apos.endLine == cpos.line) = true := by rfl) (hs : starEach (e :: es) X.env = (false, eval e X.env) :: starEach es X.env := by rfl) (hplain : (backTo cpos (starEach es X.env)).any (·.1) = false := by rfl) :
    SE X cl Ex (.Call (.Attribute o "pop" apos) (e :: es) [] cpos) (mMt fPopAt mo ms) := PE_imp (pe_bm PySem.F.plainAttrs_list PySem.F.slot_list_pop PySem.F.type_list_pop mt_popAt ho ha hbase hfew hline hs hplain) (mMt_ok popAt_ok)
theorem se_pop (ho : SE X cl Ex o mo) (hbase : attributeBase o "pop" X.env (eval o X.env) = eval o X.env := by rfl) (hline : (apos.endLine == cpos.line) = true := by rfl) :
    SE X cl Ex (.Call (.Attribute o "pop" apos) [] [] cpos) (mMt fPop mo mNil) := PE_imp (pe_bm0 PySem.F.plainAttrs_list PySem.F.slot_list_pop PySem.F.type_list_pop mt_pop ho hbase hline) (mMt0_ok pop_ok)
end
end
end Z

/-! Z7: what is walked; for, while, comprehensions. -/
namespace Z
open PySem PySem.Spec L2
open PyProof.Rows hiding St
/-- J hands out ds, one after another, as new or known data -/
def Walks (K : PySem.W.Frag) (B : Hp) (J : It) (ds : List D) : Prop := ∀ (i : Nat) (H B2 : Hp), Xs B B2 → Xs B2 H →
  (∀ d, ds[i]? = some d → J.go i H ∧ ∀ x H', J.yld i H x H' → ∃ B3, Grow H B2 H' B3 ∧ DR K B3 x d) ∧ (ds.length ≤ i → J.stop i H)
section
variable (K : PySem.W.Frag) (cl : Str → Option Addr) (Ex : WX)
def tI (it : M (List D)) : TI := fun σ H R => ∃ E S τ B, Rl K cl σ H E S τ B ∧ Post K cl Ex σ E τ B (it E S) fun ds _ _ B' H' => ∀ J, Walks K B' J ds → R J H'
end
section
variable {X : Cx} {cl : Str → Option Addr} {Ex : WX} {a b c e o tg iter elt : Expr} {es : List Expr} {pos p : Pos} {ma mb mo mi : M SV} {ms : MS} {it : M (List D)}
abbrev SI (X : Cx) (cl : Str → Option Addr) (Ex : WX) (tg iter : Expr) (it : M (List D)) : Prop := PI X tg iter (tI X.K cl Ex it)
theorem walks_list {K : PySem.W.Frag} {B : Hp} {p : Addr} {vs : List V} {ds : List D} (h : SqL K B p vs) (r : DRs K B vs ds) : Walks K B (Itl K p) ds := fun i H B2 e1 e2 => by
  have q : SqL K H p vs := Evl.ex_l e2 (Evl.ex_l e1 h)
  refine ⟨fun d hd => ?_, fun hl => ⟨vs, q, by rw [r.length]; exact hl⟩⟩
  obtain ⟨v, k1, k2⟩ := r.get hd
  refine ⟨⟨vs, v, q, k1⟩, fun x H' ⟨e, y⟩ => ?_⟩
  subst e
  have z := y vs q
  rw [k1] at z
  cases z
  exact ⟨B2, Grow.refl e2, k2.mono e1⟩
theorem walks_tup {K : PySem.W.Frag} {B : Hp} {p : Addr} {vs : List V} {ds : List D} (h : SqT K B p vs) (r : DRs K B vs ds) : Walks K B (Itt K p) ds := fun i H B2 e1 e2 => by
  have q : SqT K H p vs := Evl.ex_t e2 (Evl.ex_t e1 h)
  refine ⟨fun d hd => ?_, fun hl => ⟨vs, q, by rw [r.length]; exact hl⟩⟩
  obtain ⟨v, k1, k2⟩ := r.get hd
  refine ⟨⟨vs, v, q, k1⟩, fun x H' ⟨e, y⟩ => ?_⟩
  subst e
  have z := y vs q
  rw [k1] at z
  cases z
  exact ⟨B2, Grow.refl e2, k2.mono e1⟩
def rgD (lo : Int) (n : Nat) : List D := (List.range n).map fun (i : Nat) => PyData.int (lo + (i : Int))
theorem walks_rng {K : PySem.W.Frag} {B : Hp} (lo : Int) (n : Nat) : Walks K B (Itr lo n) (rgD lo n) := fun i H B2 e1 e2 => by
  unfold rgD
  refine ⟨fun d hd => ?_, fun hl => (show n ≤ i by simpa using hl)⟩
  rw [List.getElem?_map] at hd
  cases q : (List.range n)[i]? with
  | none => rw [q] at hd; cases hd
  | some j =>
    rw [q] at hd
    cases hd
    have hi : i < n := by
      have := (List.getElem?_eq_some_iff.mp q).1
      simpa using this
    have hj : j = i := by
      rw [List.getElem?_range hi] at q
      exact (Option.some.inj q).symm
    subst hj
    refine ⟨hi, fun x H' ⟨e, y⟩ => ?_⟩
    subst e y
    exact ⟨B2, Grow.refl e2, .int _⟩
/-- over a list, a tuple or a text's signs -/
def mIt (m : M SV) : M (List D) := fun E S => (mFz m E S).bind fun x S1 => match x with
  | .d (.list ds) => .ok ds S1
  | .d (.tuple ds) => .ok ds S1
  | _ => .bad
theorem si_seq (h : SE X cl Ex e ma) : SI X cl Ex tg e (mIt ma) := PI_imp (PI_or (pi_list (se_fz h)) (pi_tup (se_fz h))) fun σ H Q ⟨E, S, τ, B, R, q⟩ => by
  unfold mIt at q
  have q := Post.bind q
  cases w : mFz ma E S with
  | bad => rw [w] at q; exact q.elim
  | exc x S1 => exact .inl ⟨E, S, τ, B, R, by rw [w] at q ⊢; exact q⟩
  | ok x S1 =>
    rw [w] at q
    cases x with
    | r k => exact .inl ⟨E, S, τ, B, R, by rw [w]; exact fun H1 τ1 B1 e1 R1 v hv => (q H1 τ1 B1 e1 R1).elim⟩
    | f k => exact .inl ⟨E, S, τ, B, R, by rw [w]; exact fun H1 τ1 B1 e1 R1 v hv => (q H1 τ1 B1 e1 R1).elim⟩
    | s k => exact .inl ⟨E, S, τ, B, R, by rw [w]; exact fun H1 τ1 B1 e1 R1 v hv => (q H1 τ1 B1 e1 R1).elim⟩
    | d d =>
      cases d with
      | list ds =>
        refine .inl ⟨E, S, τ, B, R, ?_⟩
        rw [w]
        intro H1 τ1 B1 e1 R1 v hv
        have hv : DR X.K B1 v (.list ds) := hv
        cases hv with
        | lst h1 h2 => exact ⟨_, rfl, ⟨_, Evl.ex_l R1.ex (SqL.of h1)⟩, q H1 τ1 B1 e1 R1 H1 τ1 B1 ⟨e1.pre, Evl.Ex.refl _⟩ R1 _ (walks_list (SqL.of h1) h2)⟩
      | tuple ds =>
        refine .inr ⟨E, S, τ, B, R, ?_⟩
        rw [w]
        intro H1 τ1 B1 e1 R1 v hv
        have hv : DR X.K B1 v (.tuple ds) := hv
        cases hv with
        | tup h1 h2 => exact ⟨_, rfl, ⟨_, Evl.ex_t R1.ex h1⟩, q H1 τ1 B1 e1 R1 H1 τ1 B1 ⟨e1.pre, Evl.Ex.refl _⟩ R1 _ (walks_tup h1 h2)⟩
      | _ => exact .inl ⟨E, S, τ, B, R, by rw [w]; exact fun H1 τ1 B1 e1 R1 v hv => (q H1 τ1 B1 e1 R1).elim⟩
/-! ### range -/
def intsS (S : Sto) : List SV → Option (List Int)
  | [] => some []
  | x :: r => match rd S x with
    | some (.int i) => (intsS S r).map (i :: ·)
    | _ => none
theorem intsS_ok {K : PySem.W.Frag} {σ : St} {H : Hp} {E : Vn} {S : Sto} {τ : List Addr} {B : Hp} (R : Rl K cl σ H E S τ B) : ∀ {xs : List SV} {vs : List V} {ns : List Int}, SVrs K cl τ B vs xs → intsS S xs = some ns → vs = ns.map V.int
  | [], _, _, .nil, h => by cases h; rfl
  | x :: r, _, _, .cons hv hr, h => by
    unfold intsS at h
    split at h
    · rename_i i q
      cases q2 : intsS S r with
      | none => rw [q2] at h; cases h
      | some ms =>
        rw [q2] at h
        cases h
        cases (R.dv hv q).int
        rw [intsS_ok R hr q2]
        rfl
    · cases h
def small62 (i : Int) : Bool := decide (-(2 ^ 62) ≤ i) && decide (i < 2 ^ 62)
theorem small62_ok {i : Int} (h : small62 i = true) : -(2 ^ 62) ≤ i ∧ i < 2 ^ 62 := by
  unfold small62 at h
  simpa using h
def mRng1 (ms : M (List SV)) : M (List D) := fun E S => (ms E S).bind fun xs S1 => match intsS S1 xs with
  | some [j] => if small62 j then .ok (rgD 0 j.toNat) (S1.take S.length) else .bad
  | _ => .bad
def mRng2 (ms : M (List SV)) : M (List D) := fun E S => (ms E S).bind fun xs S1 => match intsS S1 xs with
  | some [i, j] => if small62 i && small62 j then .ok (rgD i (j - i).toNat) (S1.take S.length) else .bad
  | _ => .bad
theorem si_rng1 {mm : M (List SV)} {p pos : Pos} (hg : Gl X "range") (hm : X.mg "range" = none) (ha : SA X cl Ex [a] mm) (hs : starEach [a] X.env = [(false, eval a X.env)] := by rfl) : SI X cl Ex tg (.Call (.Name "range" p) [a] [] pos) (mRng1 mm) :=
  PI_imp (pi_range1 hg hm ha hs) fun σ H Q ⟨E, S, τ, B, R, q⟩ => by
    refine tA.of R (Post.bind q) fun xs S1 τ1 B1 H1 vs e1 R1 hv h1 => ?_
    split at h1
    · rename_i j q2
      split at h1
      · rename_i hj
        obtain ⟨k1, k2⟩ := small62_ok hj
        exact ⟨j, intsS_ok R1 hv q2, k1, k2, h1 H1 τ B1 ⟨⟨[], by simp⟩, Evl.Ex.refl _⟩ (R.back e1 R1) _ (walks_rng 0 j.toNat)⟩
      · exact h1.elim
    · exact h1.elim
theorem si_rng2 {mm : M (List SV)} {p pos : Pos} (hg : Gl X "range") (hm : X.mg "range" = none) (ha : SA X cl Ex [a, b] mm) (hs : starEach [a, b] X.env = [(false, eval a X.env), (false, eval b X.env)] := by rfl) (hs2 : starEach [b] X.env = [(false, eval b X.env)] := by rfl) :
    SI X cl Ex tg (.Call (.Name "range" p) [a, b] [] pos) (mRng2 mm) :=
  PI_imp (pi_range2 hg hm ha hs hs2) fun σ H Q ⟨E, S, τ, B, R, q⟩ => by
    refine tA.of R (Post.bind q) fun xs S1 τ1 B1 H1 vs e1 R1 hv h1 => ?_
    split at h1
    · rename_i i j q2
      split at h1
      · rename_i hj
        obtain ⟨hi, hj⟩ := (Bool.and_eq_true _ _).mp hj
        obtain ⟨k1, k2⟩ := small62_ok hi
        obtain ⟨k3, k4⟩ := small62_ok hj
        exact ⟨i, j, intsS_ok R1 hv q2, ⟨k1, k2, k3, k4⟩, h1 H1 τ B1 ⟨⟨[], by simp⟩, Evl.Ex.refl _⟩ (R.back e1 R1) _ (walks_rng i (j - i).toNat)⟩
      · exact h1.elim
    · exact h1.elim

/-! ### for -/
def forL (g : MG) (body : MS) : List D → Vn → Sto → Out Fl
  | [], E, S => .ok (.nx E) S
  | d :: ds, E, S => (g (.d d) E S).bind fun E1 S1 => (body E1 S1).bind fun fl S2 => match fl with
    | .nx E2 => forL g body ds E2 S2
    | .ct E2 => forL g body ds E2 S2
    | .bk E2 => .ok (.nx E2) S2
    | .rt x E2 => .ok (.rt x E2) S2
def mFor (it : M (List D)) (g : MG) (body : MS) : MS := fun E S => (it E S).bind fun ds S1 => forL g body ds E S1
theorem for_ok {vs : List Nat} {g : MG} (D : Ends) (σ : St) (H : Hp) (h : tS X.K cl Ex (mFor it g ms) D σ H) : tFor (tI X.K cl Ex it) (tG X.K cl Ex vs g) (tS X.K cl Ex ms) D σ H := by
  obtain ⟨E, S, τ, B, R, h⟩ := h
  refine ⟨E, S, τ, B, R, (PostE.ofBind (σ := σ) (E := E) h).mono fun ds S1 τ1 B1 H1 e1 R1 h1 J hJ => ?_⟩
  refine ⟨fun i m σ' H' => m = ds.length - i ∧ i ≤ ds.length ∧ ∃ E' S' τ' B', Xs B1 B' ∧ Rl X.K cl σ' H' E' S' τ' B' ∧ PostE X.K cl Ex Fl.env τ' B' (forL g ms (ds.drop i) E' S') (GS X.K cl D),
    ⟨ds.length, by simp, Nat.zero_le _, E, S1, τ1, B1, Evl.Ex.refl _, R1, by simpa using h1.pre e1⟩, ?_⟩
  rintro i m σ' H' ⟨rfl, hi, E', S', τ', B', x1, R', h'⟩
  obtain ⟨w1, w2⟩ := hJ i H' B' x1 R'.ex
  by_cases hl : i < ds.length
  · have hd : ds[i]? = some ds[i] := List.getElem?_eq_getElem hl
    obtain ⟨k1, k2⟩ := w1 _ hd
    refine .inr ⟨k1, fun σ2 H2 => i + 1 ≤ ds.length ∧ ∃ E' S' τ' B', Xs B1 B' ∧ Rl X.K cl σ2 H2 E' S' τ' B' ∧ PostE X.K cl Ex Fl.env τ' B' (forL g ms (ds.drop (i + 1)) E' S') (GS X.K cl D), fun σ2 H2 n => ⟨ds.length - (i + 1), by omega, rfl, n⟩, fun x H'' y => ?_⟩
    obtain ⟨B3, gr, hx⟩ := k2 x H'' y
    rw [List.drop_eq_getElem_cons hl, forL] at h'
    refine ⟨E', S', τ', B3, .d ds[i], R'.grow gr, hx, (PostE.bind (ev := id) (h'.adv gr.b)).mono fun E1 S2 σ2 τ2 B2 H2 e2 R2 h2 _ => ?_⟩
    refine tS.of R2 (PostE.bind (ev := Fl.env) (h2.pre e2)) fun fl S3 σ3 τ3 B4 H3 e3 R3 h3 => ?_
    have xB : Xs B1 B4 := ((x1.trans gr.b).trans e2.ex).trans e3.ex
    cases fl with
    | nx E2 => exact ⟨hl, E2, S3, τ3, B4, xB, R3, h3.pre e3⟩
    | ct E2 => exact ⟨hl, E2, S3, τ3, B4, xB, R3, h3.pre e3⟩
    | bk E2 => exact h3.ok ⟨e3.pre, Evl.Ex.refl _⟩ R3
    | rt x E2 => exact h3.ok ⟨e3.pre, Evl.Ex.refl _⟩ R3
  · have hil : i = ds.length := by omega
    subst hil
    refine .inl ⟨w2 (Nat.le_refl _), ?_⟩
    rw [List.drop_length, forL] at h'
    exact h'.ok Xt.refl R'
theorem ss_for {vs : List Nat} {g : MG} {body : List Stmt} (hp : PassesOwn (model X.prog X.w) X.A X.env X.xe) (hc : X.calm = true) (hi : SI X cl Ex tg iter it) (hg : SG X cl Ex vs tg g) (hb : SSs X cl Ex body ms)
    (hs : ∀ x, foldedSetIterable iter X.env x = pure x := by intro _; rfl) : SS X cl Ex (.For tg iter body [] pos) (mFor it g ms) := PS_imp (ps_for hp hc hi hg hb hs) for_ok

/-! ### while -/
def whF (c : M Bool) (body : MS) : Nat → Vn → Sto → Out Fl
  | 0, _, _ => .bad
  | n + 1, E, S => (c E S).bind fun b S1 => if b then (body E S1).bind fun fl S2 => match fl with
    | .nx E2 => whF c body n E2 S2
    | .ct E2 => whF c body n E2 S2
    | .bk E2 => .ok (.nx E2) S2
    | .rt x E2 => .ok (.rt x E2) S2
    else .ok (.nx E) S1
def fuelW : Nat := 1000000
def mWhile (c : M Bool) (body : MS) : MS := fun E S => whF c body fuelW E S
theorem while_ok {nc : M Bool} (D : Ends) (σ : St) (H : Hp) (h : tS X.K cl Ex (mWhile nc ms) D σ H) : tWhile (tT X.K cl Ex nc) (tS X.K cl Ex ms) D σ H := by
  obtain ⟨E, S, τ, B, R, h⟩ := h
  refine ⟨fun m σ' H' => ∃ E' S' τ' B', Rl X.K cl σ' H' E' S' τ' B' ∧ PostE X.K cl Ex Fl.env τ' B' (whF nc ms m E' S') (GS X.K cl D), ⟨fuelW, E, S, τ, B, R, h⟩, ?_⟩
  rintro m σ' H' ⟨E', S', τ', B', R', h'⟩
  cases m with
  | zero => exact h'.elim
  | succ m =>
    rw [whF] at h'
    refine tT.of R' (PostE.ofBind h') fun b S1 τ1 B1 H1 e1 R1 h1 => ?_
    cases b with
    | false => exact h1.ok ⟨e1.pre, Evl.Ex.refl _⟩ R1
    | true =>
      refine ⟨fun σ2 H2 => ∃ E' S' τ' B', Rl X.K cl σ2 H2 E' S' τ' B' ∧ PostE X.K cl Ex Fl.env τ' B' (whF nc ms m E' S') (GS X.K cl D), fun σ2 H2 n => ⟨m, Nat.lt_succ_self m, n⟩, ?_⟩
      refine tS.of R1 (PostE.bind (ev := Fl.env) ((show PostE X.K cl Ex Fl.env τ' B1 ((ms E' S1).bind _) _ from h1).pre e1)) fun fl S3 σ3 τ3 B4 H3 e3 R3 h3 => ?_
      cases fl with
      | nx E2 => exact ⟨E2, S3, τ3, B4, R3, h3.pre e3⟩
      | ct E2 => exact ⟨E2, S3, τ3, B4, R3, h3.pre e3⟩
      | bk E2 => exact h3.ok ⟨e3.pre, Evl.Ex.refl _⟩ R3
      | rt x E2 => exact h3.ok ⟨e3.pre, Evl.Ex.refl _⟩ R3
theorem ss_while {nc : M Bool} {body : List Stmt} (hp : PassesOwn (model X.prog X.w) X.A X.env X.xe) (hc : ST X cl Ex c nc) (hb : SSs X cl Ex body ms) : SS X cl Ex (.While c body [] pos) (mWhile nc ms) := PS_imp (ps_while hp hc hb) while_ok

/-! ### comprehensions -/
def wipeE (E : Vn) : List Nat → Vn
  | [] => E
  | v :: vs => (wipeE E vs).set v none
theorem wipeE_length (E : Vn) : ∀ vs : List Nat, (wipeE E vs).length = E.length
  | [] => rfl
  | v :: vs => by unfold wipeE; rw [List.length_set, wipeE_length E vs]
theorem wipeE_some {E : Vn} {i : Nat} {x : SV} : ∀ {vs : List Nat}, (wipeE E vs)[i]? = some (some x) → E[i]? = some (some x) ∧ i ∉ vs
  | [], h => ⟨h, by simp⟩
  | v :: vs, h => by
    unfold wipeE at h
    by_cases z : v = i
    · subst z
      by_cases hl : v < (wipeE E vs).length
      · rw [List.getElem?_set_self hl] at h
        cases h
      · rw [List.getElem?_eq_none (by rw [List.length_set]; omega)] at h
        cases h
    · rw [List.getElem?_set_ne z] at h
      obtain ⟨h1, h2⟩ := wipeE_some h
      exact ⟨h1, fun hm => by
        rcases List.mem_cons.mp hm with e | e
        · exact z e.symm
        · exact h2 e⟩
theorem Rl.wipe {K : PySem.W.Frag} {σ : St} {H : Hp} {E : Vn} {S : Sto} {τ : List Addr} {B : Hp} (R : Rl K cl σ H E S τ B) (vs : List Nat) : Rl K cl (wipe σ vs) H (wipeE E vs) S τ B where
  ex := R.ex
  tl := R.tl
  nd := R.nd
  ob := R.ob
  sl := by rw [wipe_length, wipeE_length]; exact R.sl
  sv := fun i x e => by
    obtain ⟨h1, h2⟩ := wipeE_some e
    obtain ⟨v, k1, k2⟩ := R.sv i x h1
    exact ⟨v, by rw [wipe_at, if_neg (fun z => h2 z.1)]; exact k1, k2⟩
/-- exceptions are not served within -/
def noX {α : Type} : Out α → Out α
  | .exc _ _ => .bad
  | o => o
/-- one turn after another; the list that is made stands at k -/
def lcL (g : MG) (cond : M Bool) (elt : M SV) (k : Nat) (Ew : Vn) : List D → Sto → Out Unit
  | [], S => .ok () S
  | d :: ds, S => (noX (g (.d d) Ew S)).bind fun E1 S1 => (noX (cond E1 S1)).bind fun b S2 => if b then (noX (elt E1 S2)).bind fun x S3 => match x with
      | .d y => match S3[k]? with
        | some (.lst acc) => if acc.length < sizeLine then lcL g cond elt k Ew ds (S3.set k (.lst (acc ++ [y]))) else .bad
        | _ => .bad
      | _ => .bad
    else lcL g cond elt k Ew ds S2
def mLc (it : M (List D)) (g : MG) (cond : M Bool) (elt : M SV) (vs : List Nat) : M SV := fun E S => (it E S).bind fun ds S1 => (lcL g cond elt S1.length (wipeE E vs) ds (S1 ++ [.lst []])).bind fun _ S2 => .ok (.r S1.length) S2
abbrev STs (X : Cx) (cl : Str → Option Addr) (Ex : WX) (e : List Expr) (m : M Bool) : Prop := PTs X e (tT X.K cl Ex m)
def mYes : M Bool := fun _ S => .ok true S
theorem sts_nil : STs X cl Ex [] mYes := ⟨fun pins s σ H Q I ⟨E, S, τ, B, R, h⟩ => pts_nil.run pins s σ H Q I (h H τ B Xt.refl R)⟩
theorem sts_one {nc : M Bool} (h : ST X cl Ex c nc) : STs X cl Ex [c] nc := pts_one h
abbrev W0 : WX := fun _ _ _ _ => False
theorem Post.adv {K : PySem.W.Frag} {α : Type} {σ : St} {E : Vn} {τ : List Addr} {B B1 : Hp} {o : Out α} {G : α → Sto → List Addr → Hp → Hp → Prop} (e : Xs B B1) (h : Post K cl Ex σ E τ B o G) : Post K cl Ex σ E τ B1 o G := by
  cases o with
  | ok a S' => exact fun H' τ' B' e' r => h H' τ' B' ⟨e'.pre, e.trans e'.ex⟩ r
  | exc a S' => exact fun H' τ' B' e' r => h H' τ' B' ⟨e'.pre, e.trans e'.ex⟩ r
  | bad => exact h
theorem noX_post {K : PySem.W.Frag} {α β : Type} {σ σ1 : St} {E E1 : Vn} {τ : List Addr} {B : Hp} {o : Out α} {f : α → Sto → Out β} {G : β → Sto → List Addr → Hp → Hp → Prop} (h : Post K cl Ex σ E τ B ((noX o).bind f) G) :
    Post K cl W0 σ1 E1 τ B o fun x S1 _ B1 _ => Post K cl Ex σ E τ B1 (f x S1) G := by
  cases o with
  | ok x S => exact fun H1 τ1 B1 e1 _ => Post.adv e1.ex (show Post K cl Ex σ E τ B (f x S) G from h)
  | exc x S => exact h.elim
  | bad => exact h
theorem noX_postE {K : PySem.W.Frag} {α β : Type} {σ : St} {E : Vn} {τ : List Addr} {B : Hp} {ev : α → Vn} {o : Out α} {f : α → Sto → Out β} {G : β → Sto → List Addr → Hp → Hp → Prop} (h : Post K cl Ex σ E τ B ((noX o).bind f) G) :
    PostE K cl W0 ev τ B o fun x S1 _ _ B1 _ => Post K cl Ex σ E τ B1 (f x S1) G := by
  cases o with
  | ok x S => exact fun σ1 H1 τ1 B1 e1 _ => Post.adv e1.ex (show Post K cl Ex σ E τ B (f x S) G from h)
  | exc x S => exact h.elim
  | bad => exact h
theorem bind_assoc {α β γ : Type} (o : Out α) (f : α → Sto → Out β) (g : β → Sto → Out γ) : (o.bind f).bind g = o.bind fun x S => (f x S).bind g := by
  cases o <;> rfl
theorem lc_turns {vs : List Nat} {g : MG} {cond : M Bool} {me : M SV} {σ : St} {H H1 : Hp} {E : Vn} {S S1 : Sto} {τ τ1 : List Addr} {B B1 : Hp} {J : It} {ds : List D} {Q : VK} (R : Rl X.K cl σ H E S τ B) (e1 : Xt τ B τ1 B1) (R1 : Rl X.K cl σ H1 E S1 τ1 B1) (hJ : Walks X.K B1 J ds)
    (h : Post X.K cl Ex σ E τ1 B1 ((lcL g cond me S1.length (wipeE E vs) ds (S1 ++ [.lst []])).bind fun _ S2 => .ok (.r S1.length) S2) fun x _ τ' B' H' => ∀ v, SVr X.K cl τ' B' v x → Q v H') (D : Addr) (hD : H1 D = none) :
    ∃ W : Nat → Nat → Hp → Prop, (∃ m, W 0 m (upd H1 D (.lst []))) ∧ ∀ i m H, W i m H →
      (J.stop i H ∧ Q (.ref D) H) ∨ (J.go i H ∧ ∃ Nx : Hp → Prop, (∀ H', Nx H' → ∃ m', m' < m ∧ W (i + 1) m' H') ∧ ∀ x H', J.yld i H x H' → tG X.K cl W0 vs g x (wipe σ vs) H' fun σ2 H2 => wipe σ2 vs = wipe σ vs ∧ tT X.K cl W0 cond σ2 H2 fun b H3 =>
        if b = true then tE X.K cl W0 me σ2 H3 fun y H4 => ∃ acc, H4 D = some (.lst acc) ∧ acc.length < sizeLine ∧ Nx (upd H4 D (.lst (acc ++ [y]))) else Nx H3) := by
  have hB : B1 D = none := Evl.fresh_back R1.ex hD
  have hk : (τ1 ++ [D])[S1.length]? = some D := by
    rw [← R1.tl, List.getElem?_append_right (Nat.le_refl _)]
    simp
  let Wd : Nat → Hp → Prop := fun i H' => i ≤ ds.length ∧ ∃ S' τ' B', Xt τ1 B1 τ' B' ∧ τ'[S1.length]? = some D ∧ Rl X.K cl (wipe σ vs) H' (wipeE E vs) S' τ' B' ∧
    Post X.K cl Ex σ E τ' B' ((lcL g cond me S1.length (wipeE E vs) (ds.drop i) S').bind fun _ S2 => .ok (.r S1.length) S2) fun x _ τ' B' H' => ∀ v, SVr X.K cl τ' B' v x → Q v H'
  refine ⟨fun i m H' => m = ds.length - i ∧ Wd i H', ⟨ds.length, by simp, Nat.zero_le _, S1 ++ [.lst []], τ1 ++ [D], B1, ⟨⟨[D], rfl⟩, Evl.Ex.refl _⟩, hk, (R1.wipe vs).lay (o := .lst []) hD ⟨hB, [], upd_same, .nil⟩, ?_⟩, ?_⟩
  · rw [List.drop_zero]
    exact h.pre ⟨⟨[D], rfl⟩, Evl.Ex.refl B1⟩
  rintro i m H' ⟨rfl, hi, S', τ', B', x1, hk', R', h'⟩
  obtain ⟨w1, w2⟩ := hJ i H' B' x1.ex R'.ex
  by_cases hl : i < ds.length
  · have hd : ds[i]? = some ds[i] := List.getElem?_eq_getElem hl
    obtain ⟨k1, k2⟩ := w1 _ hd
    refine .inr ⟨k1, Wd (i + 1), fun H2 n => ⟨ds.length - (i + 1), by omega, rfl, n⟩, fun x H'' y => ?_⟩
    obtain ⟨B3, gr, hx⟩ := k2 x H'' y
    rw [List.drop_eq_getElem_cons hl, lcL, bind_assoc] at h'
    refine ⟨wipeE E vs, S', τ', B3, .d ds[i], R'.grow gr, hx, (noX_postE (ev := id) (h'.adv gr.b)).mono fun E1 S2 σ2 τ2 B2 H2 e2 R2 h2 wq => ⟨?_, ?_⟩⟩
    · rw [wq]
      have : ∀ (σ : St) (vs : List Nat), wipe (wipe σ vs) vs = wipe σ vs := fun σ vs => by
        apply List.ext_getElem?
        intro j
        rw [wipe_at, wipe_at, wipe_length]
        by_cases z : j ∈ vs ∧ j < σ.length
        · rw [if_pos z, if_pos z]
        · rw [if_neg z, if_neg z]
      exact this σ vs
    · have a2 : Xt τ1 B1 τ2 B2 := (x1.trans ⟨⟨[], by simp⟩, gr.b⟩).trans e2
      rw [bind_assoc] at h2
      refine tT.of R2 (noX_post (h2.pre e2)) fun b S3 τ3 B4 H3 e3 R3 h3 => ?_
      have a3 := a2.trans e3
      cases b with
      | false =>
        refine ⟨hl, S3, τ3, B4, a3, ?_, (R'.grow gr).swap (e2.trans e3) R3, h3.pre e3⟩
        exact (e2.trans e3).at hk'
      | true =>
        have h3 : Post X.K cl Ex σ E τ2 B4 (((noX (me E1 S3)).bind _).bind _) _ := h3
        rw [bind_assoc] at h3
        refine tE.of R3 (noX_post (h3.pre e3)) fun x S4 τ4 B5 H4 v e4 R4 hv h4 => ?_
        have a4 := a3.trans e4
        have hk4 : τ4[S1.length]? = some D := ((e2.trans e3).trans e4).at hk'
        cases x with
        | r _ => exact h4.elim
        | f _ => exact h4.elim
        | s _ => exact h4.elim
        | d y =>
          dsimp only at h4
          cases q : S4[S1.length]? with
          | none => rw [q] at h4; exact h4.elim
          | some o =>
            rw [q] at h4
            cases o with
            | lst acc =>
              dsimp only at h4
              split at h4
              · rename_i hz
                obtain ⟨a, us, ea, k3, k4, k5, k6, k7⟩ := R4.own (v := .ref D) ⟨D, hk4, rfl⟩ q
                cases ea
                refine ⟨us, k6, by rw [k7.length]; exact hz, hl, _, τ4, B5, a4, hk4, ((R'.grow gr).swap ((e2.trans e3).trans e4) R4).change (o' := .lst (acc ++ [y])) k4 k3 k5 ⟨k5, _, upd_same, k7.app (.cons hv .nil)⟩, h4.pre e4⟩
              · exact h4.elim
            | _ => exact h4.elim
  · have hil : i = ds.length := by omega
    subst hil
    refine .inl ⟨w2 (Nat.le_refl _), ?_⟩
    rw [List.drop_length, lcL] at h'
    exact h' H' τ' B' Xt.refl (R.swap (e1.trans x1) R') (.ref D) ⟨D, hk', rfl⟩
theorem lc_ok {vs : List Nat} {g : MG} {cond : M Bool} {me : M SV} (σ : St) (H : Hp) (Q : VK) (h : tE X.K cl Ex (mLc it g cond me vs) σ H Q) : tLc (tI X.K cl Ex it) (tG X.K cl W0 vs g) (tT X.K cl W0 cond) (tE X.K cl W0 me) vs σ H Q := by
  obtain ⟨E, S, τ, B, R, h⟩ := h
  exact ⟨E, S, τ, B, R, (Post.bind h).mono fun ds S1 τ1 B1 H1 e1 R1 h1 J hJ D hD => lc_turns R e1 R1 hJ (h1.pre e1) D hD⟩
theorem se_lc {elt : Expr} {ifs : List Expr} {scope : Scope} {own : List (Str × Nat)} {g : MG} {cond : M Bool} {me : M SV} (hc : X.calm = true) (hN : X.N.Nodup) (hi : SI X cl Ex tg iter it) (ok : BlkOk X.N X.env.scope scope own)
    (hg : ∀ (s : Shared) (H : Hp) (C : Addr) (c : List (Str × Addr)) (fp : List Addr), SG (X.blk s H scope (compEnvC scope c C X.env) fp) cl W0 (own.map (·.2)) tg g) (ht : ∀ (s : Shared) (H : Hp) (C : Addr) (c : List (Str × Addr)) (fp : List Addr), STs (X.blk s H scope (compEnvC scope c C X.env) fp) cl W0 ifs cond)
    (he : ∀ (s : Shared) (H : Hp) (C : Addr) (c : List (Str × Addr)) (fp : List Addr), SE (X.blk s H scope (compEnvC scope c C X.env) fp) cl W0 elt me) (hs : ∀ x, foldedSetIterable iter X.env x = pure x := by intro _; rfl) :
    SE X cl Ex (.ListComp elt [⟨tg, iter, ifs, 0⟩] scope pos) (mLc it g cond me (own.map (·.2))) := PE_imp (pe_lc hc hN hi ok hg ht he hs) lc_ok
theorem ss_setLc {i : Nat} {y : Str} {py spos : Pos} {elt : Expr} {ifs : List Expr} {scope : Scope} {own : List (Str × Nat)} {g : MG} {cond : M Bool} {me : M SV} (hc : X.calm = true) (hN : X.N.Nodup) (hy : X.N[i]? = some y) (hyl : X.env.scope.names.lookup y = some .local)
    (hsw : swapsWith (.ListComp elt [⟨tg, iter, ifs, 0⟩] scope pos) (some (.Name y py)) spos.line X.env = pure true) (hi : SI X cl Ex tg iter it) (ok : BlkOk X.N X.env.scope scope own)
    (hg : ∀ (s : Shared) (H : Hp) (C : Addr) (c : List (Str × Addr)) (fp : List Addr), SG (X.blk s H scope (compEnvC scope c C X.env) fp) cl W0 (own.map (·.2)) tg g) (ht : ∀ (s : Shared) (H : Hp) (C : Addr) (c : List (Str × Addr)) (fp : List Addr), STs (X.blk s H scope (compEnvC scope c C X.env) fp) cl W0 ifs cond)
    (he : ∀ (s : Shared) (H : Hp) (C : Addr) (c : List (Str × Addr)) (fp : List Addr), SE (X.blk s H scope (compEnvC scope c C X.env) fp) cl W0 elt me) (hs : ∀ x, foldedSetIterable iter X.env x = pure x := by intro _; rfl) :
    SS X cl Ex (.Assign [.Name y py] (.ListComp elt [⟨tg, iter, ifs, 0⟩] scope pos) spos) (mSet i (mLc it g cond me (own.map (·.2)))) := PS_imp (ps_setLc hc hN hy hyl hsw hi ok hg ht he hs) fun D σ H ⟨E, S, τ, B, R, h⟩ =>
  lc_ok (X := X) (cl := cl) (Ex := Ex) σ H _ ⟨E, S, τ, B, R, (PostE.ofBind h).mono fun x S1 τ1 B1 H1 e1 R1 h1 v hv => h1.ok ⟨e1.pre, Evl.Ex.refl _⟩ (R1.set hv)⟩
end
end Z

/-! Z8: defs and their calls. -/
namespace Z
open PySem PySem.Spec L2
open PyProof.Rows hiding St
section
variable {K : PySem.W.Frag} {cl : Str → Option Addr} {Ex : WX} {σ : St} {H H' : Hp} {E : Vn} {S : Sto} {τ : List Addr} {B B' : Hp}
theorem Rl.store (R : Rl K cl σ H E S τ B) : Rl K cl [] H [] S τ B where
  ex := R.ex
  tl := R.tl
  nd := R.nd
  ob := R.ob
  sl := rfl
  sv := fun i x e => by simp at e
theorem SVrs.length : ∀ {vs : List V} {xs : List SV}, SVrs K cl τ B vs xs → vs.length = xs.length
  | _, _, .nil => rfl
  | _, _, .cons _ r => congrArg (· + 1) (SVrs.length r)
theorem SVrs.get : ∀ {vs : List V} {xs : List SV} {i : Nat} {x : SV}, SVrs K cl τ B vs xs → xs[i]? = some x → ∃ v, vs[i]? = some v ∧ SVr K cl τ B v x
  | _, _, _, _, .nil, e => by simp at e
  | _, _, 0, _, .cons h r, e => by simp at e; subst e; exact ⟨_, rfl, h⟩
  | _, _, i + 1, _, .cons h r, e => by
    obtain ⟨v, h1, h2⟩ := SVrs.get (i := i) r (by simpa using e)
    exact ⟨v, by simpa using h1, h2⟩
theorem Rl.start {N : List Str} {vs : List V} {xs : List SV} (R : Rl K cl [] H [] S τ B) (hv : SVrs K cl τ B vs xs) : Rl K cl (L2.start N vs) H (xs.map some ++ List.replicate (N.length - xs.length) none) S τ B where
  ex := R.ex
  tl := R.tl
  nd := R.nd
  ob := R.ob
  sl := by
    unfold L2.start
    simp [hv.length]
  sv := fun i x e => by
    unfold L2.start
    by_cases z : i < xs.length
    · rw [List.getElem?_append_left (by simpa using z), List.getElem?_map] at e
      cases q : xs[i]? with
      | none => rw [q] at e; cases e
      | some y =>
        rw [q] at e
        cases e
        obtain ⟨v, h1, h2⟩ := hv.get q
        exact ⟨v, by rw [List.getElem?_append_left (by rw [List.length_map, hv.length]; exact z), List.getElem?_map, h1]; rfl, h2⟩
    · rw [List.getElem?_append_right (by simpa using z), List.getElem?_replicate] at e
      split at e <;> cases e
theorem Post.swap {α : Type} {σ1 : St} {E1 : Vn} {o : Out α} {G : α → Sto → List Addr → Hp → Hp → Prop} {S0 : Sto} {H0 B0 : Hp} (R : Rl K cl σ H0 E S0 τ B0) (e0 : Xs B0 B) (h : Post K cl Ex σ E τ B o G) : Post K cl (fun C d _ H => Ex C d σ H) σ1 E1 τ B o G := by
  cases o with
  | ok x S' => exact fun H' τ' B' e r => h H' τ' B' e (R.swap ⟨e.pre, e0.trans e.ex⟩ r)
  | exc x S' => exact fun H' τ' B' e r C d hc hd => h H' τ' B' e (R.swap ⟨e.pre, e0.trans e.ex⟩ r) C d hc hd
  | bad => exact h
end
/-- a def's promise: from the arguments and the store what it hands back -/
def spM (K : PySem.W.Frag) (cl : Str → Option Addr) (n : Nat) (φ : List SV → Sto → Out SV) : Sp := fun vs H Q Ex => ∃ xs S τ B, xs.length = n ∧ SVrs K cl τ B vs xs ∧ Rl K cl [] H [] S τ B ∧
  Post K cl (fun C d _ H => Ex C d H) [] [] τ B (φ xs S) fun x _ τ' B' H' => ∀ v, SVr K cl τ' B' v x → Q v H'
abbrev FnM (P : Program) (w : World) (K : PySem.W.Frag) (mg : Str → Option Value) (base : Heap) (cl : Str → Option Addr) (k : Nat) (f : Addr) (fd : FuncData) (ps : List Str) (φ : List SV → Sto → Out SV) : Prop :=
  FnOk P w K mg base (L2.CX P w) k f fd ps (spM K cl ps.length φ)
def retO (n : Nat) (x : SV) (S : Sto) : Out SV := match x with
  | .d d => .ok (.d d) (S.take n)
  | .f k => .ok (.f k) (S.take n)
  | .s k => .ok (.s k) (S.take n)
  | .r i => if i < n then .ok (.r i) (S.take n) else match S[i]? with
    | some (.frz d) => .ok (.d d) (S.take n)
    | some o => .ok (.r n) (S.take n ++ [o])
    | none => .bad
/-- the body run in a frame of N names -/
def fnM (N : Nat) (m : MS) (xs : List SV) (S : Sto) : Out SV := match m (xs.map some ++ List.replicate (N - xs.length) none) S with
  | .ok (.nx _) S1 => .ok (.d .none) (S1.take S.length)
  | .ok (.rt x _) S1 => retO S.length x S1
  | .ok _ _ => .bad
  | .exc x S1 => .exc x (S1.take S.length)
  | .bad => .bad
section
variable {K : PySem.W.Frag} {cl : Str → Option Addr} {Ex : WX} {σ : St} {H H' : Hp} {E : Vn} {S : Sto} {τ : List Addr} {B B' : Hp}
/-- of the new objects one alone stays -/
theorem Rl.one {S1 : Sto} {τ1 : List Addr} {H1 B1 : Hp} {i : Nat} {o : Ob} (R : Rl K cl [] H [] S τ B) (x : Xt τ B τ1 B1) (R1 : Rl K cl [] H1 [] S1 τ1 B1) (hi : S.length ≤ i) (ho : S1[i]? = some o) :
    ∃ a, τ1[i]? = some a ∧ Rl K cl [] H1 [] (S1.take S.length ++ [o]) (τ ++ [a]) B1 := by
  obtain ⟨a, h1, hu, h2⟩ := R1.ob i o ho
  refine ⟨a, h1, (R.back x R1).push ?_ hu h2⟩
  refine List.all_eq_true.mpr fun b hb => ?_
  obtain ⟨j, hj, e⟩ := List.getElem_of_mem hb
  have ht : τ[j]? = some b := by rw [List.getElem?_eq_getElem hj, e]
  have : b ≠ a := fun z => by
    subst z
    have := get_inj R1.nd (x.at ht) h1
    rw [R.tl] at hj
    omega
  simpa using this
theorem retO_ok {Q : Prop} {S1 : Sto} {τ1 : List Addr} {H1 B1 : Hp} {x : SV} {v : V} {Ex : WX} {G : SV → Sto → List Addr → Hp → Hp → Prop} (R : Rl K cl [] H [] S τ B) (e : Xt τ B τ1 B1) (R1 : Rl K cl [] H1 [] S1 τ1 B1) (hv : SVr K cl τ1 B1 v x)
    (h : Post K cl Ex [] [] τ B (retO S.length x S1) G) (f : ∀ x S' τ' B', SVr K cl τ' B' v x → G x S' τ' B' H1 → Q) : Q := by
  unfold retO at h
  cases x with
  | d d => exact f (.d d) _ τ B1 hv (h H1 τ B1 ⟨⟨[], by simp⟩, e.ex⟩ (R.back e R1))
  | f k => exact f (.f k) _ τ B1 hv (h H1 τ B1 ⟨⟨[], by simp⟩, e.ex⟩ (R.back e R1))
  | s k => exact f (.s k) _ τ B1 hv (h H1 τ B1 ⟨⟨[], by simp⟩, e.ex⟩ (R.back e R1))
  | r i =>
    dsimp only at h
    obtain ⟨a, ha, rfl⟩ := hv
    split at h
    · rename_i hl
      refine f (.r i) _ τ B1 ⟨a, ?_, rfl⟩ (h H1 τ B1 ⟨⟨[], by simp⟩, e.ex⟩ (R.back e R1))
      obtain ⟨⟨m, rfl⟩, _⟩ := e
      rw [List.getElem?_append_left (by rw [R.tl]; exact hl)] at ha
      exact ha
    · rename_i hl
      split at h
      · rename_i d q
        obtain ⟨b, k1, _, k2⟩ := R1.ob i _ q
        rw [ha] at k1
        cases k1
        exact f (.d d) _ τ B1 k2 (h H1 τ B1 ⟨⟨[], by simp⟩, e.ex⟩ (R.back e R1))
      · rename_i o _ q
        obtain ⟨b, k1, R2⟩ := R.one e R1 (by omega) q
        rw [ha] at k1
        cases k1
        refine f (.r S.length) _ (τ ++ [a]) B1 ⟨a, ?_, rfl⟩ (h H1 (τ ++ [a]) B1 ⟨⟨[a], rfl⟩, e.ex⟩ R2)
        rw [← R.tl, List.getElem?_append_right (Nat.le_refl _)]
        simp
      · exact h.elim
end
section
variable {P : Program} {w : World} {K : PySem.W.Frag} {mg : Str → Option Value} {base : Heap} {cl : Str → Option Addr}
/-- THE RULE for a def -/
theorem fnM_ok {x qual : Str} {st : Stmt} {f : Addr} {fd : FuncData} {N ps : List Str} {k : Nat} {m : MS} (F : Fun K x qual st f fd) (Sc : FnScope N ps (defScope st))
    (hbody : ∀ (cdv : Value) (A : Around) (outer : List Env) (s : Shared) (H : Hp) (E : XK), Room k (A.deeper (envOfC qual (defScope st) s.heap.objs.size f cdv)) →
      SSs (cxOf (L2.CX P w) P w K mg base N qual (defScope st) f cdv A outer s H E) cl (fun C d _ H => E C d H) (defBody st) m) : FnM P w K mg base cl (k + 1) f fd ps (fnM N.length m) := by
  refine F.okX Sc (fun vs H Q E h => ?_) fun cdv A outer s H vs Q E hr h => ?_
  · obtain ⟨xs, S, τ, B, h1, h2, _⟩ := h
    rw [h2.length]
    exact h1
  · obtain ⟨xs, S, τ, B, h1, h2, R, h3⟩ := h
    refine ⟨_, hbody cdv A outer s H E hr, _, S, τ, B, R.start h2, ?_⟩
    unfold fnM at h3
    cases q : m (xs.map some ++ List.replicate (N.length - xs.length) none) S with
    | bad => rw [q] at h3; exact h3
    | exc x S1 =>
      rw [q] at h3
      intro σ' E' H' τ' B' e r C d hc hd
      exact h3 H' τ B' ⟨⟨[], by simp⟩, e.ex⟩ (R.back e r.store) C d hc hd
    | ok fl S1 =>
      rw [q] at h3
      intro σ' H' τ' B' e r
      cases fl with
      | nx E1 => exact h3 H' τ B' ⟨⟨[], by simp⟩, e.ex⟩ (R.back e r.store) .non .non
      | rt x E1 => exact fun v hv => retO_ok R e r.store hv h3 fun x S' τ2 B2 hx hg => hg v hx
      | bk E1 => exact h3.elim
      | ct E1 => exact h3.elim
end
section
variable {X : Cx} {cl : Str → Option Addr} {Ex : WX} {a b c e o : Expr} {es : List Expr} {pos p : Pos} {ma mb mo mi : M SV} {ms : M (List SV)} {x : Str} {f : Addr} {fd : FuncData} {ps : List Str} {k : Nat} {φ : List SV → Sto → Out SV}
def mCall (n : Nat) (φ : List SV → Sto → Out SV) (ms : M (List SV)) : M SV := fun E S => (ms E S).bind fun xs S1 => if xs.length = n then φ xs S1 else .bad
theorem mCall_ok (σ : St) (H : Hp) (Q : VK) (h : tE X.K cl Ex (mCall ps.length φ ms) σ H Q) : tCallS (spM X.K cl ps.length φ) (WE Ex) (tA X.K cl Ex ms) σ H Q := by
  obtain ⟨E, S, τ, B, R, h⟩ := h
  refine tA.of R (Post.bind h) fun xs S1 τ1 B1 H1 vs e1 R1 hv h1 => ?_
  split at h1
  · rename_i hl
    exact ⟨xs, S1, τ1, B1, hl, hv, R1.store, Post.swap R1 (Evl.Ex.refl _) (h1.pre e1)⟩
  · exact h1.elim
theorem se_call (tk : Takes X Ex) (F : FnM X.prog X.w X.K X.mg X.base cl k f fd ps φ) (hr : Room k X.A) (hg : Gl X x) (hm : X.mg x = some (.ref f)) (hk : PySem.W.keepIn X.K (.ref f) = true) (hb : Binds X.K fd ps []) (ha : SA X cl Ex (e :: es) ms)
    (hdb : (x == ("__debug__" : Str)) = false := by decide) (he : starEach (e :: es) X.env = (false, eval e X.env) :: starEach es X.env := by rfl) (hpl : (backTo pos (starEach es X.env)).any (·.1) = false := by rfl) :
    SE X cl Ex (.Call (.Name x p) (e :: es) [] pos) (mCall ps.length φ ms) := PE_imp (pe_callS F hr hg hm hk hb (passAt tk) ha hdb he hpl) mCall_ok
theorem se_call0 (tk : Takes X Ex) (F : FnM X.prog X.w X.K X.mg X.base cl k f fd [] φ) (hr : Room k X.A) (hg : Gl X x) (hm : X.mg x = some (.ref f)) (hk : PySem.W.keepIn X.K (.ref f) = true) (hb : Binds X.K fd [] [])
    (hdb : (x == ("__debug__" : Str)) = false := by decide) : SE X cl Ex (.Call (.Name x p) [] [] pos) (mCall 0 φ mNil) := ⟨fun pins s σ H Q I h => by
  obtain ⟨E, S, τ, B, R, h⟩ := h
  refine wpAny_Call_Name_kw (ld_glob I hg hm ?_ hdb)
  exact PySem.W.callWith_K0 I.kIn hk (run_fnS (us := []) (E := WE Ex) F hr hb (passAt tk σ) I .nil ⟨[], S, τ, B, rfl, .nil, R.store, Post.swap R (Evl.Ex.refl _) h⟩)⟩
/-- a call of what a name holds: one of the defs of a table -/
def mCallV (i n : Nat) (Φ : Str → Option (List SV → Sto → Out SV)) (ms : M (List SV)) : M SV := fun E S => match E[i]? with
  | some (some (.f k)) => match Φ k with
    | some φ => mCall n φ ms E S
    | none => .bad
  | _ => .bad
structure Tab (P : Program) (w : World) (K : PySem.W.Frag) (mg : Str → Option Value) (base : Heap) (cl : Str → Option Addr) (k n : Nat) (Φ : Str → Option (List SV → Sto → Out SV)) : Prop where
  ok : ∀ x φ, Φ x = some φ → ∃ f fd ps, cl x = some f ∧ ps.length = n ∧ FnM P w K mg base cl k f fd ps φ ∧ PySem.W.keepIn K (.ref f) = true ∧ Binds K fd ps []
def tab1 (x : Str) (φ : List SV → Sto → Out SV) : Str → Option (List SV → Sto → Out SV) := fun y => if y = x then some φ else none
theorem tab1_ok {P : Program} {w : World} {K : PySem.W.Frag} {mg : Str → Option Value} {base : Heap} {k : Nat} {x : Str} {f : Addr} {fd : FuncData} {ps : List Str} {φ : List SV → Sto → Out SV} (hc : cl x = some f) (F : FnM P w K mg base cl k f fd ps φ) (hk : PySem.W.keepIn K (.ref f) = true) (hb : Binds K fd ps []) :
    Tab P w K mg base cl k ps.length (tab1 x φ) := ⟨fun y ψ h => by
  unfold tab1 at h
  split at h
  · rename_i e
    cases h
    subst e
    exact ⟨f, fd, ps, hc, rfl, F, hk, hb⟩
  · cases h⟩
def mFn (x : Str) : M SV := fun _ S => .ok (.f x) S
/-- a def as a value -/
theorem se_fn (hg : Gl X x) (hm : X.mg x = some (.ref f)) (hc : cl x = some f) (hdb : (x == ("__debug__" : Str)) = false := by decide) : SE X cl Ex (.Name x pos) (mFn x) :=
  PE_imp (pe_glob hg hm (v := .ref f) rfl hdb) fun σ H Q ⟨E, S, τ, B, R, h⟩ => h H τ B Xt.refl R (.ref f) ⟨f, hc, rfl⟩
theorem se_callV {i n : Nat} {Φ : Str → Option (List SV → Sto → Out SV)} (tk : Takes X Ex) (T : Tab X.prog X.w X.K X.mg X.base cl k n Φ) (hr : Room k X.A) (hN : X.N[i]? = some x) (hv : Vis X.env.scope x) (ha : SA X cl Ex (e :: es) ms)
    (hdb : (x == ("__debug__" : Str)) = false := by decide) (hcd : (x == ("__classdict__" : Str)) = false := by decide)
    (he : starEach (e :: es) X.env = (false, eval e X.env) :: starEach es X.env := by rfl) (hpl : (backTo pos (starEach es X.env)).any (·.1) = false := by rfl) : SE X cl Ex (.Call (.Name x p) (e :: es) [] pos) (mCallV i n Φ ms) := ⟨fun pins s σ H Q I h => by
  obtain ⟨E, S, τ, B, R, h⟩ := h
  unfold mCallV at h
  split at h
  · rename_i y q
    split at h
    · rename_i φ q2
      obtain ⟨f, fd, ps, h1, h2, F, hk, hb⟩ := T.ok y φ q2
      obtain ⟨v, k1, k2⟩ := R.sv i _ q
      obtain ⟨g, k3, k4⟩ := k2
      rw [h1] at k3
      cases k3
      subst k4
      refine wpAny_Call_Name_kw (thn ((pe_var (pos := p) hN hv hdb hcd).run pins s σ H (fun v H1 => v = .ref f ∧ H1 = H) I ⟨.ref f, k1, rfl, rfl⟩) fun u s1 ⟨v, H1, I1, r1, q1⟩ => ?_)
      obtain ⟨rfl, rfl⟩ := q1
      cases r1
      have h' : tE X.K cl Ex (mCall ps.length φ ms) σ H1 Q := ⟨E, S, τ, B, R, by rw [h2]; exact h⟩
      have h'' := mCall_ok σ H1 Q h'
      refine PySem.W.callWith_K (h₀ := X.base) I1.ok.mod.kin hk (thn (ha.run pos pins s1 σ _ _ I1 h'') fun us s2 ⟨vs, H2, I2, r, q⟩ => ⟨I2.kIn, ?_⟩) he hpl
      exact run_fnS F hr hb (passAt tk σ) I2 r q
    · exact h.elim
  · exact h.elim⟩
end
end Z

/-! Z9: instances of own classes; comprehensions of two clauses. -/
namespace Z
open PySem PySem.Spec L2
open PyProof.Rows hiding St
section
variable {X : Cx} {cl : Str → Option Addr} {Ex : WX} {a b c e o : Expr} {es : List Expr} {pos p apos : Pos} {ma mb mo mi : M SV} {ms : M (List SV)} {x m f : Str} {fa C : Addr} {fd : FuncData} {ps : List Str} {k : Nat} {φ : List SV → Sto → Out SV}
/-- the instance at a place, of the class c -/
def insAt (c : Str) (S : Sto) (o : SV) : Option (Nat × List (Str × D)) := match o with
  | .r k => match S[k]? with
    | some (.ins c' fs) => if c' = c then some (k, fs) else none
    | _ => none
  | _ => none
theorem FsR.look {K : PySem.W.Frag} {B : Hp} : ∀ {vs : List (Str × V)} {fs : List (Str × D)} {f : Str} {d : D}, FsR K B vs fs → fs.lookup f = some d → ∃ v, vs.lookup f = some v ∧ DR K B v d
  | _, _, _, _, .nil, h => by cases h
  | (g, v) :: vs, (_, d') :: fs, f, d, .cons hd hr, h => by
    rw [List.lookup_cons] at h ⊢
    split at h
    · cases h; exact ⟨v, rfl, hd⟩
    · exact hr.look h
theorem FsR.lookN {K : PySem.W.Frag} {B : Hp} : ∀ {vs : List (Str × V)} {fs : List (Str × D)} {f : Str}, FsR K B vs fs → fs.lookup f = none → vs.lookup f = none
  | _, _, _, .nil, h => rfl
  | (g, v) :: vs, (_, d') :: fs, f, .cons hd hr, h => by
    rw [List.lookup_cons] at h ⊢
    split at h
    · cases h
    · exact hr.lookN h
theorem FsR.length {K : PySem.W.Frag} {B : Hp} : ∀ {vs : List (Str × V)} {fs : List (Str × D)}, FsR K B vs fs → vs.length = fs.length
  | _, _, .nil => rfl
  | _, _, .cons _ r => congrArg (· + 1) r.length
def putD (f : Str) (d : D) : List (Str × D) → List (Str × D)
  | [] => [(f, d)]
  | (g, e) :: r => if g = f then (g, d) :: r else (g, e) :: putD f d r
theorem FsR.put {K : PySem.W.Frag} {B : Hp} {f : Str} {v : V} {d : D} (h : DR K B v d) : ∀ {vs : List (Str × V)} {fs : List (Str × D)}, FsR K B vs fs → FsR K B (putF f v vs) (putD f d fs)
  | _, _, .nil => .cons h .nil
  | (g, w) :: vs, (_, e) :: fs, .cons hd hr => by
    unfold putF putD
    by_cases z : g = f
    · rw [if_pos z, if_pos z]; exact .cons h hr
    · rw [if_neg z, if_neg z]; exact .cons hd (hr.put h)
theorem Rl.inst {c : Str} {K : PySem.W.Frag} {σ : St} {H : Hp} {E : Vn} {S : Sto} {τ : List Addr} {B : Hp} {v : V} {o : SV} {k : Nat} {fs : List (Str × D)} (R : Rl K cl σ H E S τ B) (hv : SVr K cl τ B v o) (h : insAt c S o = some (k, fs)) (hC : cl c = some C) :
    ∃ a dx vs, o = .r k ∧ v = .ref a ∧ τ[k]? = some a ∧ k < S.length ∧ B a = none ∧ H a = some (.ins C dx vs) ∧ FsR K B vs fs := by
  unfold insAt at h
  cases o with
  | d _ => cases h
  | f _ => cases h
  | s _ => cases h
  | r i =>
    dsimp only at h
    split at h
    · rename_i c' fs' q
      split at h
      · rename_i hc
        cases h
        subst hc
        obtain ⟨a, h1, rfl⟩ := hv
        obtain ⟨b, k1, _, k2, C', dx, vs, k3, k4, k5⟩ := R.ob _ _ q
        rw [h1] at k1
        cases k1
        rw [hC] at k3
        cases k3
        exact ⟨a, dx, vs, rfl, rfl, h1, (List.getElem?_eq_some_iff.mp q).1, k2, k4, k5⟩
      · cases h
    · cases h
def mFld (c f : Str) (mo : M SV) : M SV := fun E S => (mo E S).bind fun o S1 => match insAt c S1 o with
  | some (_, fs) => match fs.lookup f with
    | some d => .ok (.d d) (S1.take S.length)
    | none => .bad
  | none => .bad
theorem se_fld (c : Str) (hC : cl c = some C) (T : Cls X.K C) (nf : NoAttr X.K C f) (he : SE X cl Ex o mo) (hb : attributeBase o f X.env (eval o X.env) = eval o X.env := by rfl) : SE X cl Ex (.Attribute o f pos) (mFld c f mo) :=
  PE_imp (pe_fld he hb) fun σ H Q ⟨E, S, τ, B, R, h⟩ => by
    refine tE.of R (Post.bind h) fun o' S1 τ1 B1 H1 v e1 R1 ho h1 => ?_
    cases q : insAt c S1 o' with
    | none => rw [q] at h1; exact h1.elim
    | some r =>
      obtain ⟨k, fs⟩ := r
      rw [q] at h1
      dsimp only at h1
      obtain ⟨a, dx, vs, _, rfl, k1, k2, k3, k4, k5⟩ := R1.inst ho q hC
      cases q2 : fs.lookup f with
      | none => rw [q2] at h1; exact h1.elim
      | some d =>
        rw [q2] at h1
        obtain ⟨w, l1, l2⟩ := k5.look q2
        exact ⟨a, C, dx, vs, w, rfl, k4, T, nf, l1, h1 H1 τ B1 ⟨⟨[], by simp⟩, Evl.Ex.refl _⟩ (R.back e1 R1) w l2⟩
def mSetF (c f : Str) (mo m : M SV) : MS := fun E S => (m E S).bind fun x S1 => (mo E S1).bind fun o S2 => match x with
  | .d d => match insAt c S2 o with
    | some (k, fs) => if fs.length < 1000 then .ok (.nx E) ((S2.set k (.ins c (putD f d fs))).take S.length) else .bad
    | none => .bad
  | _ => .bad
theorem ss_setF (c : Str) {pos' : Pos} (hC : cl c = some C) (T : Cls X.K C) (nf : NoAttr X.K C f) (ho : SE X cl Ex o mo) (he : SE X cl Ex e ma) (hs : swapsWith e (some (.Attribute o f pos')) pos.line X.env = pure false := by rfl) : SS X cl Ex (.Assign [.Attribute o f pos'] e pos) (mSetF c f mo ma) :=
  PS_imp (ps_fld ho he hs) fun D σ H ⟨E, S, τ, B, R, h⟩ => by
    refine tE.of R (PostE.ofBind h) fun x S1 τ1 B1 H1 u e1 R1 hx h1 => ?_
    refine tE.of R1 ((PostE.ofBind h1).pre e1) fun o' S2 τ2 B2 H2 v e2 R2 ho' h2 => ?_
    cases x with
    | r _ => exact h2.elim
    | f _ => exact h2.elim
    | s _ => exact h2.elim
    | d d =>
      dsimp only at h2
      cases q : insAt c S2 o' with
      | none => rw [q] at h2; exact h2.elim
      | some r =>
        obtain ⟨k, fs⟩ := r
        rw [q] at h2
        dsimp only at h2
        obtain ⟨a, dx, vs, _, rfl, k1, k2, k3, k4, k5⟩ := R2.inst ho' q hC
        split at h2
        · rename_i hl
          refine ⟨a, C, dx, vs, rfl, k4, T, nf, by rw [k5.length]; exact hl, ?_⟩
          exact h2.ok ⟨⟨[], by simp⟩, Evl.Ex.refl _⟩ (R.back (e1.trans e2) (R2.change (o' := .ins c (putD f d fs)) k2 k1 k3 ⟨k3, C, dx, _, hC, upd_same, k5.put (DR.mono e2.ex hx)⟩))
        · exact h2.elim
/-- o.m(..) -/
def mMeth (c m : Str) (n : Nat) (φ : List SV → Sto → Out SV) (mo : M SV) (ms : M (List SV)) : M SV := fun E S => (mo E S).bind fun o S1 => match insAt c S1 o with
  | some (k, fs) => if fs.lookup m = none then (ms E S1).bind fun xs S2 => if xs.length + 1 = n then φ (.r k :: xs) S2 else .bad else .bad
  | none => .bad
theorem mMeth_ok (c : Str) (hC : cl c = some C) (σ : St) (H : Hp) (Q : VK) (h : tE X.K cl Ex (mMeth c m ps.length φ mo ms) σ H Q) : tE X.K cl Ex mo σ H fun x H1 => ∃ a dx fs, x = .ref a ∧ H1 a = some (.ins C dx fs) ∧ fs.lookup m = none ∧
    tA X.K cl Ex ms σ H1 fun vs H2 => spM X.K cl ps.length φ (x :: vs) H2 Q (WE Ex σ) := by
  obtain ⟨E, S, τ, B, R, h⟩ := h
  refine tE.of R (Post.bind h) fun o' S1 τ1 B1 H1 v e1 R1 ho h1 => ?_
  cases q : insAt c S1 o' with
  | none => rw [q] at h1; exact h1.elim
  | some r =>
    obtain ⟨k, fs⟩ := r
    rw [q] at h1
    dsimp only at h1
    obtain ⟨a, dx, vs, rfl, rfl, k1, k2, k3, k4, k5⟩ := R1.inst ho q hC
    split at h1
    · rename_i hn
      refine ⟨a, dx, vs, rfl, k4, k5.lookN hn, tA.of R1 ((Post.bind h1).pre e1) fun xs S2 τ2 B2 H2 us e2 R2 hxs h2 => ?_⟩
      split at h2
      · rename_i hl
        exact ⟨.r k :: xs, S2, τ2, B2, by rw [List.length_cons]; exact hl, .cons (ho.mono e2) hxs, R2.store, Post.swap R2 (Evl.Ex.refl _) (h2.pre (e1.trans e2))⟩
      · exact h2.elim
    · exact h1.elim
theorem se_meth (c : Str) {pl : Sem Bool} (tk : Takes X Ex) (hC : cl c = some C) (T : Cls X.K C) (hm : Meth X.K C m fa) (F : FnM X.prog X.w X.K X.mg X.base cl k fa fd ps φ) (hr : Room k X.A) (hb : Binds X.K fd ps []) (ho : SE X cl Ex o mo) (ha : SA X cl Ex (e :: es) ms)
    (hst : starEach (e :: es) X.env = (false, eval e X.env) :: starEach es X.env := by rfl) (hpl : (backTo pos (starEach es X.env)).any (·.1) = false := by rfl)
    (ht : eval (.Call (.Attribute o m apos) (e :: es) [] pos) X.env = (do
      let ov ← eval o X.env
      standAt apos.atName
      let (f, first) ← holding [ov] (getMethod ov m pl)
      callWith pos f first (backTo pos (starEach (e :: es) X.env)) (backToKw pos (keywordEach [] X.env))) := by rfl) :
    SE X cl Ex (.Call (.Attribute o m apos) (e :: es) [] pos) (mMeth c m ps.length φ mo ms) := ⟨fun pins s σ H Q I h => by
  have h := mMeth_ok (ps := ps) c hC σ H Q h
  refine PySem.W.methodCall_KW (pl := pl) (thn (ho.run pins s σ H _ I h) fun u s1 ⟨x, H1, I1, rx, a, dx, fs, ex, ea, l, q⟩ => ?_) ht
  subst ex
  obtain rfl : u = Value.ref a := rx
  refine getmeth_ok I1 ea T hm l (PySem.W.callWith_K (first := [.ref a]) (h₀ := X.base) I.ok.mod.kin hm.kp (thn (ha.run pos pins s1 σ H1 _ I1 q) fun us s2 ⟨vs, H2, I2, r, q2⟩ => ⟨I2.kIn, ?_⟩) hst hpl)
  exact run_fnS (us := .ref a :: us) (vs := .ref a :: vs) (E := WE Ex) F hr hb (passAt tk σ) I2 (.cons rfl r) q2⟩
theorem se_meth0 (c : Str) {pl : Sem Bool} (tk : Takes X Ex) (hC : cl c = some C) (T : Cls X.K C) (hm : Meth X.K C m fa) (F : FnM X.prog X.w X.K X.mg X.base cl k fa fd ps φ) (hr : Room k X.A) (hb : Binds X.K fd ps []) (ho : SE X cl Ex o mo)
    (ht : eval (.Call (.Attribute o m apos) [] [] pos) X.env = (do
      let ov ← eval o X.env
      standAt apos.atName
      let (f, first) ← holding [ov] (getMethod ov m pl)
      callWith pos f first (backTo pos (starEach [] X.env)) (backToKw pos (keywordEach [] X.env))) := by rfl) :
    SE X cl Ex (.Call (.Attribute o m apos) [] [] pos) (mMeth c m ps.length φ mo mNil) := ⟨fun pins s σ H Q I h => by
  have h := mMeth_ok (ps := ps) c hC σ H Q h
  refine PySem.W.methodCall_KW (pl := pl) (thn (ho.run pins s σ H _ I h) fun u s1 ⟨x, H1, I1, rx, a, dx, fs, ex, ea, l, q⟩ => ?_) ht
  subst ex
  obtain rfl : u = Value.ref a := rx
  obtain ⟨E, S, τ, B, R, q⟩ := q
  exact getmeth_ok I1 ea T hm l (PySem.W.callWith_K0 (first := [.ref a]) I1.kIn hm.kp (run_fnS (us := [.ref a]) (vs := [.ref a]) (E := WE Ex) F hr hb (passAt tk σ) I1 (.cons rfl .nil) (q H1 τ B Xt.refl R [] .nil)))⟩
/-- C(..) -/
def mMake (c : Str) (n : Nat) (φ : List SV → Sto → Out SV) (ms : M (List SV)) : M SV := fun E S => (ms E S).bind fun xs S1 => if xs.length + 1 = n then (φ (.r S1.length :: xs) (S1 ++ [.ins c []])).bind fun v S2 => match v with
  | .d .none => .ok (.r S1.length) S2
  | _ => .bad
  else .bad
theorem make_ok (c : Str) (hC : cl c = some C) (σ : St) (H : Hp) (Q : VK) (h : tE X.K cl Ex (mMake c ps.length φ ms) σ H Q) : tA X.K cl Ex ms σ H fun vs H1 => ∀ x dx, H1 x = none → H1 dx = none → dx ≠ x →
    spM X.K cl ps.length φ (.ref x :: vs) (upd (upd H1 dx (.own x)) x (.ins C dx [])) (fun v H2 => v = .non ∧ Q (.ref x) H2) (WE Ex σ) := by
  obtain ⟨E, S, τ, B, R, h⟩ := h
  refine tA.of R (Post.bind h) fun xs S1 τ1 B1 H1 vs e1 R1 hxs h1 x dx hx hdx hne => ?_
  split at h1
  · rename_i hl
    have hx2 : (upd H1 dx (.own x)) x = none := by rw [upd_ne (Ne.symm hne)]; exact hx
    have bx : B1 x = none := Evl.fresh_back R1.ex hx
    have R2 : Rl X.K cl σ (upd (upd H1 dx (.own x)) x (.ins C dx [])) E (S1 ++ [.ins c []]) (τ1 ++ [x]) B1 := (R1.grow (Grow.newH R1.ex hdx)).lay hx2 ⟨bx, C, dx, [], hC, upd_same, .nil⟩
    have xt : Xt τ1 B1 (τ1 ++ [x]) B1 := ⟨⟨[x], rfl⟩, Evl.Ex.refl _⟩
    have hk : (τ1 ++ [x])[S1.length]? = some x := by
      rw [← R1.tl, List.getElem?_append_right (Nat.le_refl _)]
      simp
    refine ⟨.r S1.length :: xs, _, τ1 ++ [x], B1, by rw [List.length_cons]; exact hl, .cons ⟨x, hk, rfl⟩ (hxs.mono xt), R2.store, ?_⟩
    have h2 := Post.swap R2 (Evl.Ex.refl _) (((Post.bind h1).pre e1).pre xt) (σ1 := []) (E1 := [])
    refine h2.mono fun v S3 τ3 B3 H3 e3 R3 h3 v' hv' => ?_
    split at h3
    · have hv' : DR X.K B3 v' .none := hv'
      cases hv'
      refine ⟨rfl, ?_⟩
      have e13 : Xt τ B τ3 B3 := (e1.trans xt).trans e3
      exact h3 H3 τ3 B3 ⟨e13.pre, Evl.Ex.refl _⟩ (R.swap e13 R3) (.ref x) ⟨x, e3.at hk, rfl⟩
    · exact h3.elim
  · exact h1.elim
theorem run_makeS {CX : CXT} {E : XK} {sp : Sp} {pins : List (Addr × Obj)} {σ : St} {H : Hp} {s : Shared} {Q : VK} {us : List Value} {vs : List V} (Mk0 : Mk X.K C fa) (F : FnOk X.prog X.w X.K X.mg X.base CX k fa fd ps sp) (hr : Room (k + 1) X.A) (hb : Binds X.K fd ps [])
    (hx : PassesAt CX X σ E) (I : Inv X pins σ H s) (r : Vals vs us)
    (h : ∀ x dx, H x = none → H dx = none → dx ≠ x → sp (.ref x :: vs) (upd (upd H dx (.own x)) x (.ins C dx [])) (fun v H2 => v = .non ∧ Q (.ref x) H2) E) :
    wpAny (model X.prog X.w) X.A (call (.ref C) us) (EP X pins σ Q) X.xe s := by
  have hq := h (s.heap.objs.size + 1) s.heap.objs.size (I.hok.fresh (Nat.le_succ _)) (I.hok.fresh (Nat.le_refl _)) (Nat.ne_of_lt (Nat.lt_succ_self _))
  have I2 := Inv.made (C := C) I
  have r2 : Vals (V.ref (s.heap.objs.size + 1) :: vs) (Value.ref (s.heap.objs.size + 1) :: us) := .cons rfl r
  have hl : (Value.ref (s.heap.objs.size + 1) :: us).length = ps.length := r2.length.symm.trans (F.len _ _ _ _ hq)
  have hb2 := hb _ (Value.ref (s.heap.objs.size + 1) :: us) I2.kIn (by rw [List.append_nil]; exact hl)
  rw [List.append_nil] at hb2
  refine wpAny_call (make_map (f := fa) I.kIn Mk0.makes Mk0.init (beq_iff_eq.mp Mk0.fn) (codeAny_mono (F.run _ X.stack _ _ ⟨Value.ref (s.heap.objs.size + 1) :: us, []⟩ (Value.ref (s.heap.objs.size + 1) :: us) _ _ E (hr.make C us [])
    (I2.env0.make C us []) hb2 r2 hq) fun r s' hq' => ?_))
  cases r with
  | error e => exact hx pins _ _ e s' I2 hq'
  | ok fl =>
    cases fl with
    | ret u =>
      obtain ⟨v, H', I3, rv, ev, q3⟩ := I2.after hq'
      subst ev
      exact ⟨rv, V.ref (s.heap.objs.size + 1), H', I3, rfl, q3⟩
    | next => exact hq'.elim
    | brk => exact hq'.elim
    | cont => exact hq'.elim
theorem se_make (c : Str) (tk : Takes X Ex) (hC : cl c = some C) (Mk0 : Mk X.K C fa) (F : FnM X.prog X.w X.K X.mg X.base cl k fa fd ps φ) (hr : Room (k + 1) X.A) (hg : Gl X x) (hm : X.mg x = some (.ref C)) (hb : Binds X.K fd ps []) (ha : SA X cl Ex (e :: es) ms)
    (hdb : (x == ("__debug__" : Str)) = false := by decide) (he : starEach (e :: es) X.env = (false, eval e X.env) :: starEach es X.env := by rfl) (hpl : (backTo pos (starEach es X.env)).any (·.1) = false := by rfl) :
    SE X cl Ex (.Call (.Name x p) (e :: es) [] pos) (mMake c ps.length φ ms) := ⟨fun pins s σ H Q I h => by
  have h := make_ok (ps := ps) c hC σ H Q h
  refine wpAny_Call_Name_kw (ld_glob I hg hm ?_ hdb)
  refine PySem.W.callWith_K (h₀ := X.base) I.ok.mod.kin Mk0.kp (thn (ha.run pos pins s σ H _ I h) fun us s1 ⟨vs, H1, I1, r, q⟩ => ⟨I1.kIn, ?_⟩) he hpl
  exact run_makeS Mk0 F hr hb (passAt tk σ) I1 r q⟩
end
end Z

/-! Z10: comprehensions of two clauses. -/
namespace Z
open PySem PySem.Spec L2
open PyProof.Rows hiding St
section
variable {X : Cx} {cl : Str → Option Addr} {Ex : WX} {a b c e o tg iter tg1 iter1 elt : Expr} {es : List Expr} {pos p : Pos} {it it1 : M (List D)} {me : M SV}
theorem wipe_wipe (σ : St) (vs : List Nat) : wipe (wipe σ vs) vs = wipe σ vs := by
  apply List.ext_getElem?
  intro j
  rw [wipe_at, wipe_at, wipe_length]
  by_cases z : j ∈ vs ∧ j < σ.length
  · rw [if_pos z, if_pos z]
  · rw [if_neg z, if_neg z]
/-- the inner turns, whatever follows -/
theorem lcG {β : Type} {vs : List Nat} {g : MG} {cond : M Bool} {σ σa : St} {H1 : Hp} {E Ea : Vn} {S1 : Sto} {τ1 : List Addr} {B1 : Hp} {J : It} {ds : List D} {k : Nat} {D : Addr} {F : Unit → Sto → Out β} {G : β → Sto → List Addr → Hp → Hp → Prop} {Fin : Hp → Prop}
    (R1 : Rl X.K cl (wipe σa vs) H1 (wipeE Ea vs) S1 τ1 B1) (hk1 : τ1[k]? = some D) (hJ : Walks X.K B1 J ds) (h : Post X.K cl Ex σ E τ1 B1 ((lcL g cond me k (wipeE Ea vs) ds S1).bind F) G)
    (hfin : ∀ H' S' τ' B', Xt τ1 B1 τ' B' → Rl X.K cl (wipe σa vs) H' (wipeE Ea vs) S' τ' B' → Post X.K cl Ex σ E τ' B' (F () S') G → Fin H') :
    ∃ W : Nat → Nat → Hp → Prop, (∃ m, W 0 m H1) ∧ ∀ i m H, W i m H →
      (J.stop i H ∧ Fin H) ∨ (J.go i H ∧ ∃ Nx : Hp → Prop, (∀ H', Nx H' → ∃ m', m' < m ∧ W (i + 1) m' H') ∧ ∀ x H', J.yld i H x H' → tG X.K cl W0 vs g x (wipe σa vs) H' fun σ2 H2 => wipe σ2 vs = wipe σa vs ∧ tT X.K cl W0 cond σ2 H2 fun b H3 =>
        if b = true then tE X.K cl W0 me σ2 H3 fun y H4 => ∃ acc, H4 D = some (.lst acc) ∧ acc.length < sizeLine ∧ Nx (upd H4 D (.lst (acc ++ [y]))) else Nx H3) := by
  let Wd : Nat → Hp → Prop := fun i H' => i ≤ ds.length ∧ ∃ S' τ' B', Xt τ1 B1 τ' B' ∧ τ'[k]? = some D ∧ Rl X.K cl (wipe σa vs) H' (wipeE Ea vs) S' τ' B' ∧
    Post X.K cl Ex σ E τ' B' ((lcL g cond me k (wipeE Ea vs) (ds.drop i) S').bind F) G
  refine ⟨fun i m H' => m = ds.length - i ∧ Wd i H', ⟨ds.length, by simp, Nat.zero_le _, S1, τ1, B1, Xt.refl, hk1, R1, by rw [List.drop_zero]; exact h⟩, ?_⟩
  rintro i m H' ⟨rfl, hi, S', τ', B', x1, hk', R', h'⟩
  obtain ⟨w1, w2⟩ := hJ i H' B' x1.ex R'.ex
  by_cases hl : i < ds.length
  · have hd : ds[i]? = some ds[i] := List.getElem?_eq_getElem hl
    obtain ⟨k1, k2⟩ := w1 _ hd
    refine .inr ⟨k1, Wd (i + 1), fun H2 n => ⟨ds.length - (i + 1), by omega, rfl, n⟩, fun x H'' y => ?_⟩
    obtain ⟨B3, gr, hx⟩ := k2 x H'' y
    rw [List.drop_eq_getElem_cons hl, lcL, bind_assoc] at h'
    refine ⟨wipeE Ea vs, S', τ', B3, .d ds[i], R'.grow gr, hx, (noX_postE (ev := id) (h'.adv gr.b)).mono fun E1 S2 σ2 τ2 B2 H2 e2 R2 h2 wq => ⟨by rw [wq]; exact wipe_wipe σa vs, ?_⟩⟩
    have a2 : Xt τ1 B1 τ2 B2 := (x1.trans ⟨⟨[], by simp⟩, gr.b⟩).trans e2
    rw [bind_assoc] at h2
    refine tT.of R2 (noX_post (h2.pre e2)) fun b S3 τ3 B4 H3 e3 R3 h3 => ?_
    have a3 := a2.trans e3
    cases b with
    | false => exact ⟨hl, S3, τ3, B4, a3, (e2.trans e3).at hk', (R'.grow gr).swap (e2.trans e3) R3, h3.pre e3⟩
    | true =>
      have h3 : Post X.K cl Ex σ E τ2 B4 (((noX (me E1 S3)).bind _).bind _) _ := h3
      rw [bind_assoc] at h3
      refine tE.of R3 (noX_post (h3.pre e3)) fun x S4 τ4 B5 H4 v e4 R4 hv h4 => ?_
      have a4 := a3.trans e4
      have hk4 : τ4[k]? = some D := ((e2.trans e3).trans e4).at hk'
      cases x with
      | r _ => exact h4.elim
      | f _ => exact h4.elim
      | s _ => exact h4.elim
      | d y =>
        dsimp only at h4
        cases q : S4[k]? with
        | none => rw [q] at h4; exact h4.elim
        | some o =>
          rw [q] at h4
          cases o with
          | lst acc =>
            dsimp only at h4
            split at h4
            · rename_i hz
              obtain ⟨a, us, ea, k3, k4, k5, k6, k7⟩ := R4.own (v := .ref D) ⟨D, hk4, rfl⟩ q
              cases ea
              exact ⟨us, k6, by rw [k7.length]; exact hz, hl, _, τ4, B5, a4, hk4, ((R'.grow gr).swap ((e2.trans e3).trans e4) R4).change (o' := .lst (acc ++ [y])) k4 k3 k5 ⟨k5, _, upd_same, k7.app (.cons hv .nil)⟩, h4.pre e4⟩
            · exact h4.elim
          | _ => exact h4.elim
  · have hil : i = ds.length := by omega
    subst hil
    rw [List.drop_length, lcL] at h'
    exact .inl ⟨w2 (Nat.le_refl _), hfin H' S' τ' B' x1 R' h'⟩
def lc2L (g : MG) (cond : M Bool) (it1 : M (List D)) (g1 : MG) (cond1 : M Bool) (elt : M SV) (k : Nat) (Ew : Vn) (vs1 : List Nat) : List D → Sto → Out Unit
  | [], S => .ok () S
  | d :: ds, S => (noX (g (.d d) Ew S)).bind fun E1 S1 => (noX (cond E1 S1)).bind fun b S2 => if b then (noX (it1 E1 S2)).bind fun ds1 S3 => (lcL g1 cond1 elt k (wipeE E1 vs1) ds1 S3).bind fun _ S4 => lc2L g cond it1 g1 cond1 elt k Ew vs1 ds S4
    else lc2L g cond it1 g1 cond1 elt k Ew vs1 ds S2
def mLc2 (it : M (List D)) (g : MG) (cond : M Bool) (it1 : M (List D)) (g1 : MG) (cond1 : M Bool) (elt : M SV) (vs vs1 : List Nat) : M SV := fun E S => (it E S).bind fun ds S1 => (lc2L g cond it1 g1 cond1 elt S1.length (wipeE E vs) vs1 ds (S1 ++ [.lst []])).bind fun _ S2 => .ok (.r S1.length) S2
theorem lc2_ok {vs vs1 : List Nat} {g g1 : MG} {cond cond1 : M Bool} (σ : St) (H : Hp) (Q : VK) (h : tE X.K cl Ex (mLc2 it g cond it1 g1 cond1 me vs vs1) σ H Q) :
    tLc2 (tI X.K cl Ex it) (tG X.K cl W0 vs g) (tT X.K cl W0 cond) (tI X.K cl W0 it1) (tG X.K cl W0 vs1 g1) (tT X.K cl W0 cond1) (tE X.K cl W0 me) vs vs1 σ H Q := by
  obtain ⟨E, S, τ, B, R, h⟩ := h
  refine ⟨E, S, τ, B, R, (Post.bind h).mono fun ds S1 τ1 B1 H1 e1 R1 h1 J hJ D hD => ?_⟩
  have h1 := h1.pre e1
  have hB : B1 D = none := Evl.fresh_back R1.ex hD
  have hk : (τ1 ++ [D])[S1.length]? = some D := by
    rw [← R1.tl, List.getElem?_append_right (Nat.le_refl _)]
    simp
  let Wd : Nat → Hp → Prop := fun i H' => i ≤ ds.length ∧ ∃ S' τ' B', Xt τ1 B1 τ' B' ∧ τ'[S1.length]? = some D ∧ Rl X.K cl (wipe σ vs) H' (wipeE E vs) S' τ' B' ∧
    Post X.K cl Ex σ E τ' B' ((lc2L g cond it1 g1 cond1 me S1.length (wipeE E vs) vs1 (ds.drop i) S').bind fun _ S2 => .ok (.r S1.length) S2) fun x _ τ' B' H' => ∀ v, SVr X.K cl τ' B' v x → Q v H'
  refine ⟨fun i m H' => m = ds.length - i ∧ Wd i H', ⟨ds.length, by simp, Nat.zero_le _, S1 ++ [.lst []], τ1 ++ [D], B1, ⟨⟨[D], rfl⟩, Evl.Ex.refl _⟩, hk, (R1.wipe vs).lay (o := .lst []) hD ⟨hB, [], upd_same, .nil⟩, ?_⟩, ?_⟩
  · rw [List.drop_zero]
    exact h1.pre ⟨⟨[D], rfl⟩, Evl.Ex.refl B1⟩
  rintro i m H' ⟨rfl, hi, S', τ', B', x1, hk', R', h'⟩
  obtain ⟨w1, w2⟩ := hJ i H' B' x1.ex R'.ex
  by_cases hl : i < ds.length
  · have hd : ds[i]? = some ds[i] := List.getElem?_eq_getElem hl
    obtain ⟨k1, k2⟩ := w1 _ hd
    refine .inr ⟨k1, Wd (i + 1), fun H2 n => ⟨ds.length - (i + 1), by omega, rfl, n⟩, fun x H'' y => ?_⟩
    obtain ⟨B3, gr, hx⟩ := k2 x H'' y
    rw [List.drop_eq_getElem_cons hl, lc2L, bind_assoc] at h'
    refine ⟨wipeE E vs, S', τ', B3, .d ds[i], R'.grow gr, hx, (noX_postE (ev := id) (h'.adv gr.b)).mono fun E1 S2 σ2 τ2 B2 H2 e2 R2 h2 wq => ⟨by rw [wq]; exact wipe_wipe σ vs, ?_⟩⟩
    have a2 : Xt τ1 B1 τ2 B2 := (x1.trans ⟨⟨[], by simp⟩, gr.b⟩).trans e2
    rw [bind_assoc] at h2
    refine tT.of R2 (noX_post (h2.pre e2)) fun b S3 τ3 B4 H3 e3 R3 h3 => ?_
    have a3 := a2.trans e3
    cases b with
    | false => exact ⟨hl, S3, τ3, B4, a3, (e2.trans e3).at hk', (R'.grow gr).swap (e2.trans e3) R3, h3.pre e3⟩
    | true =>
      have h3 : Post X.K cl Ex σ E τ2 B4 (((noX (it1 E1 S3)).bind _).bind _) _ := h3
      rw [bind_assoc] at h3
      refine ⟨E1, S3, τ3, B4, R3, (noX_post (h3.pre e3)).mono fun ds1 S4 τ4 B5 H4 e4 R4 h4 J1 hJ1 => ?_⟩
      have a4 := a3.trans e4
      have h4' := h4.pre e4
      rw [bind_assoc] at h4'
      exact lcG (Fin := Wd (i + 1)) (R4.wipe vs1) (((e2.trans e3).trans e4).at hk') hJ1 h4' fun H5 S5 τ5 B6 e5 R5 h5 =>
        ⟨hl, S5, τ5, B6, a4.trans e5, ((((e2.trans e3).trans e4).trans e5)).at hk', (R'.grow gr).swap (((e2.trans e3).trans e4).trans e5) R5, h5⟩
  · have hil : i = ds.length := by omega
    subst hil
    refine .inl ⟨w2 (Nat.le_refl _), ?_⟩
    rw [List.drop_length, lc2L] at h'
    exact h' H' τ' B' Xt.refl (R.swap (e1.trans x1) R') (.ref D) ⟨D, hk', rfl⟩
theorem se_lc2 {elt : Expr} {ifs ifs1 : List Expr} {scope : Scope} {own : List (Str × Nat)} {vs1 : List Nat} {g g1 : MG} {cond cond1 : M Bool} (hc : X.calm = true) (hN : X.N.Nodup) (hi : SI X cl Ex tg iter it) (ok : BlkOk X.N X.env.scope scope own) (hv : ∀ i ∈ vs1, i ∈ own.map (·.2))
    (hg : ∀ (s : Shared) (H : Hp) (C : Addr) (c : List (Str × Addr)) (fp : List Addr), SG (X.blk s H scope (compEnvC scope c C X.env) fp) cl W0 (own.map (·.2)) tg g) (ht : ∀ (s : Shared) (H : Hp) (C : Addr) (c : List (Str × Addr)) (fp : List Addr), STs (X.blk s H scope (compEnvC scope c C X.env) fp) cl W0 ifs cond)
    (hi1 : ∀ (s : Shared) (H : Hp) (C : Addr) (c : List (Str × Addr)) (fp : List Addr), SI (X.blk s H scope (compEnvC scope c C X.env) fp) cl W0 tg1 iter1 it1)
    (hg1 : ∀ (s : Shared) (H : Hp) (C : Addr) (c : List (Str × Addr)) (fp : List Addr), SG (X.blk s H scope (compEnvC scope c C X.env) fp) cl W0 vs1 tg1 g1) (ht1 : ∀ (s : Shared) (H : Hp) (C : Addr) (c : List (Str × Addr)) (fp : List Addr), STs (X.blk s H scope (compEnvC scope c C X.env) fp) cl W0 ifs1 cond1)
    (he : ∀ (s : Shared) (H : Hp) (C : Addr) (c : List (Str × Addr)) (fp : List Addr), SE (X.blk s H scope (compEnvC scope c C X.env) fp) cl W0 elt me) (hs : ∀ x, foldedSetIterable iter X.env x = pure x := by intro _; rfl) (hs1 : ∀ env x, foldedSetIterable iter1 env x = pure x := by intro _ _; rfl) :
    SE X cl Ex (.ListComp elt [⟨tg, iter, ifs, 0⟩, ⟨tg1, iter1, ifs1, 0⟩] scope pos) (mLc2 it g cond it1 g1 cond1 me (own.map (·.2)) vs1) := PE_imp (pe_lc2 hc hN hi ok hv hg ht hi1 hg1 ht1 he hs hs1) lc2_ok
theorem ss_setLc2 {i : Nat} {y : Str} {py spos : Pos} {elt : Expr} {ifs ifs1 : List Expr} {scope : Scope} {own : List (Str × Nat)} {vs1 : List Nat} {g g1 : MG} {cond cond1 : M Bool} (hc : X.calm = true) (hN : X.N.Nodup) (hy : X.N[i]? = some y) (hyl : X.env.scope.names.lookup y = some .local)
    (hsw : swapsWith (.ListComp elt [⟨tg, iter, ifs, 0⟩, ⟨tg1, iter1, ifs1, 0⟩] scope pos) (some (.Name y py)) spos.line X.env = pure true) (hi : SI X cl Ex tg iter it) (ok : BlkOk X.N X.env.scope scope own) (hv : ∀ i ∈ vs1, i ∈ own.map (·.2))
    (hg : ∀ (s : Shared) (H : Hp) (C : Addr) (c : List (Str × Addr)) (fp : List Addr), SG (X.blk s H scope (compEnvC scope c C X.env) fp) cl W0 (own.map (·.2)) tg g) (ht : ∀ (s : Shared) (H : Hp) (C : Addr) (c : List (Str × Addr)) (fp : List Addr), STs (X.blk s H scope (compEnvC scope c C X.env) fp) cl W0 ifs cond)
    (hi1 : ∀ (s : Shared) (H : Hp) (C : Addr) (c : List (Str × Addr)) (fp : List Addr), SI (X.blk s H scope (compEnvC scope c C X.env) fp) cl W0 tg1 iter1 it1)
    (hg1 : ∀ (s : Shared) (H : Hp) (C : Addr) (c : List (Str × Addr)) (fp : List Addr), SG (X.blk s H scope (compEnvC scope c C X.env) fp) cl W0 vs1 tg1 g1) (ht1 : ∀ (s : Shared) (H : Hp) (C : Addr) (c : List (Str × Addr)) (fp : List Addr), STs (X.blk s H scope (compEnvC scope c C X.env) fp) cl W0 ifs1 cond1)
    (he : ∀ (s : Shared) (H : Hp) (C : Addr) (c : List (Str × Addr)) (fp : List Addr), SE (X.blk s H scope (compEnvC scope c C X.env) fp) cl W0 elt me) (hs : ∀ x, foldedSetIterable iter X.env x = pure x := by intro _; rfl) (hs1 : ∀ env x, foldedSetIterable iter1 env x = pure x := by intro _ _; rfl) :
    SS X cl Ex (.Assign [.Name y py] (.ListComp elt [⟨tg, iter, ifs, 0⟩, ⟨tg1, iter1, ifs1, 0⟩] scope pos) spos) (mSet i (mLc2 it g cond it1 g1 cond1 me (own.map (·.2)) vs1)) := PS_imp (ps_setLc2 hc hN hy hyl hsw hi ok hv hg ht hi1 hg1 ht1 he hs hs1) fun D σ H ⟨E, S, τ, B, R, h⟩ =>
  lc2_ok (X := X) (cl := cl) (Ex := Ex) σ H _ ⟨E, S, τ, B, R, (PostE.ofBind h).mono fun x S1 τ1 B1 H1 e1 R1 h1 v hv => h1.ok ⟨e1.pre, Evl.Ex.refl _⟩ (R1.set hv)⟩
end
end Z

/-! Z11: enumerate over a tuple. -/
namespace Z
open PySem PySem.Spec L2
open PyProof.Rows hiding St
/-- enumerate(v): its two new cells -/
theorem meets_enum1 {v : Value} {o : Obj} {H : Heap → Prop} (B : Begins v o H) :
    Meets (Builtin.«enumerate.__new__» ⟨[.type "enumerate", v], []⟩) (fun _ R s => H s.heap ∧
      R (.ok (.ret (.ref (s.heap.push o).objs.size))) { s with heap := (s.heap.push o).push { cls := .type "enumerate", data := .fields #[.none, .bool false, .ref s.heap.objs.size, rawInt 0, .none, .none] } }) :=
  .of_wp fun prog w A R s h => by
    obtain ⟨hp, g, d, tk, os⟩ := s
    obtain ⟨h1, h⟩ := h
    have hsub := sub_enumerate
    have q1 : ∀ {A' : Around} {E : Value → Shared → Prop} {Q : Value → Shared → Prop}, Q (.ref hp.objs.size) ⟨hp.push o, g, d, tk, os⟩ → wpAny (model prog w) A' (pyIter v) Q E ⟨hp, g, d, tk, os⟩ := fun q => B.iter prog w _ _ _ _ h1 q
    wp_walk using q1
    refine wpAny_stack_any fun st => wpAny_pure ?_
    split
    · rename_i c _ _ _ _ _
      cases (c == Value.type "enumerate") <;> (wp_walk using q1; exact ⟨_, rfl, h⟩)
    · wp_walk using q1
      exact ⟨_, rfl, h⟩
theorem enum_begins1 {prog : Program} {w : World} {A : Around} {E : Value → Shared → Prop} {s : Shared} {v : Value} {o : Obj} {H : Heap → Prop} {Q : Value → Shared → Prop} (B : Begins v o H) (h1 : H s.heap)
    (h : ∀ h', IsEnum h' (s.heap.objs.size + 1) s.heap.objs.size 0 .none → h'.get? s.heap.objs.size = some o → h'.objs.size = s.heap.objs.size + 2 →
      (∀ b o, s.heap.get? b = some o → h'.get? b = some o) → Q (.ref (s.heap.objs.size + 1)) { s with heap := h' }) :
    wpAny (model prog w) A (call (.type "enumerate") [v]) Q E s := by
  refine callType_new F.called_enumerate (by decide) (F.typeCall_enumerate_1 _) (F.newCall_enumerate_1 _) (fun obj => F.args_object_init_2 obj _) F.entry_enumerate_new (meets_enum1 B) ⟨h1, ?_⟩
  have hz : (s.heap.push o).objs.size = s.heap.objs.size + 1 := Heap.size_push ..
  show _ ∧ _
  rw [hz]
  have he : IsEnum ((s.heap.push o).push { cls := .type "enumerate", data := .fields #[.none, .bool false, .ref s.heap.objs.size, rawInt 0, .none, .none] }) (s.heap.objs.size + 1) s.heap.objs.size 0 .none := by
    have q := Heap.get?_push_size (s.heap.push o) (o := { cls := .type "enumerate", data := .fields #[.none, .bool false, .ref s.heap.objs.size, rawInt 0, .none, .none] }) rfl
    rw [hz] at q
    exact q
  exact ⟨⟨_, he, rfl⟩, h _ he (Heap.get?_push_of_some _ (Heap.get?_push_size _ B.free)) (by rw [Heap.size_push, hz]) fun b o x => Heap.get?_push_of_some _ (Heap.get?_push_of_some _ x)⟩
theorem wpAny_pyNext_enum_endT {prog : Program} {w : World} {A : Around} {E : Value → Shared → Prop} {s : Shared} {e it l : Addr} {i : Nat} {k : Int} {items : Array Value} {old : Value} {Q : Option Value → Shared → Prop} (hh : A.handled = none)
    (he : IsEnum s.heap e it k old) (hit : s.heap.IsTupleIter it l i) (hl : s.heap.IsTuple l items) (hx : items[i]? = none)
    (hQ : ∀ h', Heap.ExtBut it s.heap h' → Q none { s with heap := h' }) : wpAny (model prog w) A (pyNext (.ref e)) Q E s := by
  have hT : s.TypeIs (.ref e) "enumerate" := ⟨_, he, rfl⟩
  unfold pyNext
  refine wpAny_bind (wpAny_attempt (wpAny_callSpecial?_slot (name := Str.ofString "__next__") hT F.slot_enumerate_next (wpAny_call_entry F.slot_enumerate_next hT F.entry_enumerate_next ?_ (F.args_enumerate_next_1 _))))
  show wpAny _ _ (field (.ref e) 2 >>= _) _ _ _
  refine wpAny_bind (wpAny_field he rfl (x := .ref it) rfl (wpAny_bind (wpAny_nextOf_tuple_end hh hit hl hx fun h' x he' hx' => ?_)))
  obtain ⟨o, ho, hc⟩ := hx'
  exact wpAny_bind (wpAny_isInstance (T := "StopIteration") (b := true) ⟨o, ho, hc⟩ isSubtype_stop (wpAny_pure (hQ _ he')))
/-- the tuple at a, each item in a new pair -/
def IteT (K : PySem.W.Frag) (a : Addr) : It :=
  ⟨fun i H => ∃ (xs : List V) (x : V), SqT K H a xs ∧ xs[i]? = some x, fun i H v H' => ∃ T x, v = .ref T ∧ H T = none ∧ H' = upd H T (.tup [.int (i : Nat), x]) ∧ ∀ xs, SqT K H a xs → xs[i]? = some x, fun i H => ∃ xs : List V, SqT K H a xs ∧ xs.length ≤ i⟩
theorem turn_enumT {P : Program} {w : World} {K : PySem.W.Frag} {elts : List Expr} {kk : Nat} {tpos : Pos} (a e it : Addr) :
    Turn P w K (.Tuple elts kk tpos) (IteT K a) [e, it] e (fun i h => (∃ old, IsEnum h e it ((i : Nat) : Int) old) ∧ h.IsTupleIter it a i ∧ e ≠ it) where
  mem := by simp
  obj := fun i h st b hb => by
    obtain ⟨⟨old, he⟩, ⟨o, ho, hc, hd⟩, _⟩ := st
    have e' : b = e ∨ b = it := by simpa using hb
    rcases e' with z | z
    · rw [z]; exact ⟨_, he, fun v q => nomatch q⟩
    · rw [z]; exact ⟨o, ho, fun v q => by rw [hd] at q; cases q⟩
  keep := fun i h h' st k => let ⟨⟨old, he⟩, hi, hne⟩ := st; ⟨⟨old, k e (by simp) _ he⟩, hi.at fun o q => k it (by simp) o q, hne⟩
  item := by
    intro X hP hw hK hc i pins s σ H E I hf st hg
    subst hP hw hK
    obtain ⟨⟨old, he⟩, hit, hne⟩ := st
    obtain ⟨xs, x, hq, hx⟩ := hg
    obtain ⟨its, rv, p, hz⟩ := I.tuple hq
    obtain ⟨u, hu, ru⟩ := rv.get hx
    have hel : e < s.heap.objs.size := Heap.lt_size he
    have hil : it < s.heap.objs.size := by obtain ⟨_, q, _⟩ := hit; exact Heap.lt_size q
    have nait : a ≠ it := fun z => by
      obtain ⟨o, ho, hc1, _⟩ := p
      obtain ⟨o2, ho2, hc2, _⟩ := hit
      rw [z, ho2] at ho
      cases ho
      rw [hc2] at hc1
      injection hc1 with q
      exact absurd q (by decide)
    have nae : a ≠ e := fun z => by
      obtain ⟨o, ho, hc1, _⟩ := p
      have he' : s.heap.get? e = some _ := he
      rw [z, he'] at ho
      cases ho
      injection hc1 with q
      exact absurd q (by decide)
    have hlt : i < its.toArray.size := by
      have := (List.getElem?_eq_some_iff.mp hu).1
      simpa using this
    refine wpAny_pyNext_enum_itemD (Draws.tuple (A := X.A.in1) (I.ok.hd hc) it a nait its.toArray) he ⟨hit, p⟩ hlt hne (by simp [hne, Ne.symm nae]) fun y h' tk hy ho st' hT hsz hk => ?_
    have hy' : y = u := by
      have hy : its.toArray[i]? = some y := hy
      have : its[i]? = some y := by simpa using hy
      rw [hu] at this
      exact (Option.some.inj this).symm
    subst hy'
    refine ⟨_, rfl, wpAny_letOwnedTupleGo_enum (s := { s with heap := h', toks := tk + 1 }) ho fun h'' he' sb => ?_⟩
    have hT2 : h''.get? s.heap.objs.size = some { cls := .type "tuple", data := .seq #[.int i tk, y] } := (sb.2 _ (Nat.ne_of_gt hel)).trans hT
    have new : ObjOk X.prog X.w (upd H s.heap.objs.size (.tup [.int (i : Nat), x])) h'' s.heap.objs.size (.tup [.int (i : Nat), x]) :=
      ⟨by show 2 ≤ sizeLine; decide, [.int i tk, y], .cons ⟨_, rfl⟩ (.cons ru .nil), ⟨_, hT2, rfl, _, rfl⟩⟩
    have I1 : Inv X pins σ (upd H s.heap.objs.size (.tup [.int (i : Nat), x])) { s with heap := h'', toks := tk + 1 } :=
      I.turnedNew (ch := [e, it]) (fun b ob hb q => (sb.2 b (fun z => hb (by simp [z]))).trans (hk b ob (fun z => hb (by simp [z])) (fun z => hb (by simp [z])) q)) hf (Nat.le_refl _) new
    refine ⟨.ref s.heap.objs.size, _, I1, rfl, ⟨_, x, rfl, I.hok.fresh (Nat.le_refl _), rfl, fun ys hy => by rw [I.tuple_inj hy hq]; exact hx⟩, ⟨⟨y, ?_⟩, st'.1.at fun o q => (sb.2 it (Ne.symm hne)).trans q, hne⟩, fun b hb => ?_⟩
    · have e1 : ((i + 1 : Nat) : Int) = (i : Int) + 1 := by omega
      rw [e1]; exact he'
    · have hb' : b < s.heap.objs.size := by
        have e' : b = e ∨ b = it := by simpa using hb
        rcases e' with z | z
        · rw [z]; exact hel
        · rw [z]; exact hil
      rw [upd_ne (Nat.ne_of_lt hb')]
      exact (hf b hb).1
  done := by
    intro X hP hw hK hc i pins s σ H E I hf st hg
    subst hP hw hK
    obtain ⟨⟨old, he⟩, hit, hne⟩ := st
    obtain ⟨xs, hq, hx⟩ := hg
    obtain ⟨its, rv, p, hz⟩ := I.tuple hq
    obtain ⟨f0, f1, f2, f3, f4, f5⟩ := hf it (by simp)
    have hl := rv.length
    have nait : a ≠ it := fun z => by
      obtain ⟨o, ho, hc1, _⟩ := p
      obtain ⟨o2, ho2, hc2, _⟩ := hit
      rw [z, ho2] at ho
      cases ho
      rw [hc2] at hc1
      injection hc1 with q
      exact absurd q (by decide)
    exact wpAny_pyNext_enum_endT (I.ok.hd hc) he hit p (by simp; omega) fun h' eb => ⟨rfl, I.turned (t' := s.toks) (fun b o hb q => eb b o hb q) f0 f1 f3 f4 f5⟩
  self := fun A i s Q E st h => let ⟨⟨_, he⟩, _⟩ := st; wpAny_pyIter_enum he h
section
variable {X : Cx} {cl : Str → Option Addr} {Ex : WX} {a b c e o tg iter elt : Expr} {es : List Expr} {pos p : Pos} {mm : M (List SV)}
def iEnumT (K : PySem.W.Frag) (ta : TA) : TI := fun σ H R => ta σ H fun vs H1 => ∃ a xs, vs = [.ref a] ∧ SqT K H1 a xs ∧ R (IteT K a) H1
theorem pi_enumT {e : Expr} {ta : TA} {p pos tpos : Pos} {elts : List Expr} {kk : Nat} (hg : Gl X "enumerate") (hm : X.mg "enumerate" = none) (ha : PA X [e] ta) (hs : starEach [e] X.env = [(false, eval e X.env)] := by rfl) :
    PI X (.Tuple elts kk tpos) (.Call (.Name "enumerate" p) [e] [] pos) (iEnumT X.K ta) := by
  refine ⟨fun pins s σ H R I h => Call_ (ld_blt I hg hm boot_enumerate (PyProof.Rows.callWith_type1 (thn (ha.run pos pins s σ H _ I h) fun us s1 ⟨vs, H1, I1, r1, q1⟩ => ?_) hs rfl))⟩
  obtain ⟨a, xs, ex, hq, q⟩ := q1
  subst ex
  cases r1 with
  | cons r rr =>
    cases rr
    cases r
    obtain ⟨its, rv, p', hz⟩ := I1.tuple hq
    refine enum_begins1 (begins_tuple a its.toArray) p' fun h' he hit hsz hk => wpAny_pyIter_enum he ?_
    have I2 : Inv X pins σ H1 { s1 with heap := h' } := I1.kept (t' := s1.toks) hk
    refine ⟨s1.heap.objs.size + 1, [s1.heap.objs.size + 1, s1.heap.objs.size], _, _, H1, rfl, I2, turn_enumT a (s1.heap.objs.size + 1) s1.heap.objs.size, ⟨⟨.none, he⟩, ⟨_, hit, rfl, rfl⟩, Nat.succ_ne_self _⟩, fun b hb => ?_, q⟩
    have e' : b = s1.heap.objs.size + 1 ∨ b = s1.heap.objs.size := by simpa using hb
    have hle : s1.heap.objs.size ≤ b := by
      rcases e' with z | z
      · rw [z]; exact Nat.le_add_right _ _
      · rw [z]; exact Nat.le_refl _
    exact I1.fpOk hle (I1.hok.fresh hle)
def enD (i : Nat) : List D → List D
  | [] => []
  | d :: ds => .tuple [.int (i : Nat), d] :: enD (i + 1) ds
theorem enD_at : ∀ (ds : List D) (k i : Nat), (enD k ds)[i]? = (ds[i]?).map fun d => PyData.tuple [.int ((k + i : Nat) : Int), d]
  | [], k, i => by simp [enD]
  | d :: ds, k, 0 => by simp [enD]
  | d :: ds, k, i + 1 => by
    rw [enD, List.getElem?_cons_succ, List.getElem?_cons_succ, enD_at ds (k + 1) i]
    have : k + 1 + i = k + (i + 1) := by omega
    rw [this]
theorem enD_len (ds : List D) : ∀ k, (enD k ds).length = ds.length := by
  induction ds with
  | nil => intro k; rfl
  | cons d ds ih => intro k; rw [enD, List.length_cons, List.length_cons, ih]
theorem walks_pair {K : PySem.W.Frag} {B2 H H' : Hp} {x : V} {T : Addr} {vs : List V} {ds : List D} (e2 : Xs B2 H) (hT : H T = none) (hH : H' = upd H T (.tup vs)) (r : DRs K B2 vs ds) (hx : x = .ref T) : ∃ B3, Grow H B2 H' B3 ∧ DR K B3 x (.tuple ds) := by
  subst hH hx
  exact ⟨_, Grow.new e2 hT, .tup (SqT.of upd_same) (r.mono (Evl.Ex.new (Evl.fresh_back e2 hT)))⟩
theorem walks_enum {K : PySem.W.Frag} {B : Hp} {p : Addr} {vs : List V} {ds : List D} (h : SqL K B p vs) (r : DRs K B vs ds) : Walks K B (Ite K p) (enD 0 ds) := fun i H B2 e1 e2 => by
  have q : SqL K H p vs := Evl.ex_l e2 (Evl.ex_l e1 h)
  refine ⟨fun d hd => ?_, fun hl => ⟨vs, q, by rw [r.length]; rw [enD_len] at hl; exact hl⟩⟩
  rw [enD_at] at hd
  cases q2 : ds[i]? with
  | none => rw [q2] at hd; cases hd
  | some d0 =>
    rw [q2] at hd
    cases hd
    obtain ⟨v, k1, k2⟩ := r.get q2
    refine ⟨⟨vs, v, q, k1⟩, fun x H' ⟨T, y, hx, hT, hH, hy⟩ => ?_⟩
    have z := hy vs q
    rw [k1] at z
    cases z
    rw [Nat.zero_add]
    exact walks_pair e2 hT hH (.cons (.int _) (.cons (k2.mono e1) .nil)) hx
theorem walks_enumT {K : PySem.W.Frag} {B : Hp} {p : Addr} {vs : List V} {ds : List D} (h : SqT K B p vs) (r : DRs K B vs ds) : Walks K B (IteT K p) (enD 0 ds) := fun i H B2 e1 e2 => by
  have q : SqT K H p vs := Evl.ex_t e2 (Evl.ex_t e1 h)
  refine ⟨fun d hd => ?_, fun hl => ⟨vs, q, by rw [r.length]; rw [enD_len] at hl; exact hl⟩⟩
  rw [enD_at] at hd
  cases q2 : ds[i]? with
  | none => rw [q2] at hd; cases hd
  | some d0 =>
    rw [q2] at hd
    cases hd
    obtain ⟨v, k1, k2⟩ := r.get q2
    refine ⟨⟨vs, v, q, k1⟩, fun x H' ⟨T, y, hx, hT, hH, hy⟩ => ?_⟩
    have z := hy vs q
    rw [k1] at z
    cases z
    rw [Nat.zero_add]
    exact walks_pair e2 hT hH (.cons (.int _) (.cons (k2.mono e1) .nil)) hx
/-- enumerate(x): x a list or a tuple -/
def mEnum (m : M SV) : M (List D) := fun E S => (mFz m E S).bind fun x S1 => match x with
  | .d (.list ds) => .ok (enD 0 ds) S1
  | .d (.tuple ds) => .ok (enD 0 ds) S1
  | _ => .bad
theorem si_enum {ma : M SV} {e : Expr} {p pos tpos : Pos} {elts : List Expr} {kk : Nat} (hg : Gl X "enumerate") (hm : X.mg "enumerate" = none) (ha : SE X cl Ex e ma) (hs : starEach [e] X.env = [(false, eval e X.env)] := by rfl) (hs2 : starEach [e] X.env = (false, eval e X.env) :: starEach [] X.env := by rfl) :
    SI X cl Ex (.Tuple elts kk tpos) (.Call (.Name "enumerate" p) [e] [] pos) (mEnum ma) := PI_imp (PI_or (pi_enum hg hm (pa_cons (se_fz ha) pa_nil hs2) hs) (pi_enumT hg hm (pa_cons (se_fz ha) pa_nil hs2) hs)) fun σ H Q ⟨E, S, τ, B, R, q⟩ => by
  unfold mEnum at q
  have q := Post.bind q
  cases w : mFz ma E S with
  | bad => rw [w] at q; exact q.elim
  | exc x S1 => exact .inl ⟨E, S, τ, B, R, by rw [w] at q ⊢; exact q⟩
  | ok x S1 =>
    rw [w] at q
    cases x with
    | r k => exact .inl ⟨E, S, τ, B, R, by rw [w]; exact fun H1 τ1 B1 e1 R1 v hv => (q H1 τ1 B1 e1 R1).elim⟩
    | f k => exact .inl ⟨E, S, τ, B, R, by rw [w]; exact fun H1 τ1 B1 e1 R1 v hv => (q H1 τ1 B1 e1 R1).elim⟩
    | s k => exact .inl ⟨E, S, τ, B, R, by rw [w]; exact fun H1 τ1 B1 e1 R1 v hv => (q H1 τ1 B1 e1 R1).elim⟩
    | d d =>
      cases d with
      | list ds =>
        refine .inl ⟨E, S, τ, B, R, ?_⟩
        rw [w]
        intro H1 τ1 B1 e1 R1 v hv
        have hv : DR X.K B1 v (.list ds) := hv
        cases hv with
        | lst h1 h2 => exact ⟨_, _, rfl, Evl.ex_l R1.ex (SqL.of h1), q H1 τ1 B1 e1 R1 H1 τ1 B1 ⟨e1.pre, Evl.Ex.refl _⟩ R1 _ (walks_enum (SqL.of h1) h2)⟩
      | tuple ds =>
        refine .inr ⟨E, S, τ, B, R, ?_⟩
        rw [w]
        intro H1 τ1 B1 e1 R1 v hv
        have hv : DR X.K B1 v (.tuple ds) := hv
        cases hv with
        | tup h1 h2 => exact ⟨_, _, rfl, Evl.ex_t R1.ex h1, q H1 τ1 B1 e1 R1 H1 τ1 B1 ⟨e1.pre, Evl.Ex.refl _⟩ R1 _ (walks_enumT h1 h2)⟩
      | _ => exact .inl ⟨E, S, τ, B, R, by rw [w]; exact fun H1 τ1 B1 e1 R1 v hv => (q H1 τ1 B1 e1 R1).elim⟩
end
end Z

/-! Z12: constants of the module, room, the end of a law. -/
namespace Z
open PySem PySem.Spec L2
open PyProof.Rows hiding St
/-- a module's constant -/
def GD (K : PySem.W.Frag) (mg : Str → Option Value) (x : Str) (d : D) : Prop := ∃ v u, mg x = some u ∧ RelV v u ∧ ∀ B, DR K B v d
theorem se_globD {X : Cx} {cl : Str → Option Addr} {Ex : WX} {x : Str} {d : D} {pos : Pos} (hg : Gl X x) (h : GD X.K X.mg x d) (hd : (x == ("__debug__" : Str)) = false := by decide) : SE X cl Ex (.Name x pos) (mC d) :=
  let ⟨_, _, h1, h2, h3⟩ := h
  se_glob hg h1 h2 h3 hd
theorem gd_int {K : PySem.W.Frag} {mg : Str → Option Value} {x : Str} {i : Int} {t : Tok} (h : mg x = some (.int i t)) : GD K mg x (.int i) := ⟨.int i, _, h, ⟨t, rfl⟩, fun _ => .int i⟩
theorem gd_str {K : PySem.W.Frag} {mg : Str → Option Value} {x : Str} {i : Str} {t : Tok} (h : mg x = some (.str i t)) : GD K mg x (.str i) := ⟨.str i, _, h, ⟨t, rfl⟩, fun _ => .str i⟩
theorem hu64 {A : Around} {k : Nat} (hr : Room k A) : A.units + 64 < cLine := hr.units
theorem hu65 {A : Around} {k : Nat} (hr : Room k A) : A.units + 65 < cLine := by have := hr.un; omega
def spLaw (K : PySem.W.Frag) : Sp := fun vs H Q _ => ∃ (a : Addr) (ns : List Int), vs = [.ref a] ∧ SqL K H a (ns.map V.int) ∧ ns.length ≤ 63 ∧ ∀ H', Q (.bl true) H'
theorem law_imp {P : Program} {w : World} {K : PySem.W.Frag} {mg : Str → Option Value} {base : Heap} {cl : Str → Option Addr} {k : Nat} {fa : Addr} {fd : FuncData} {φ : List SV → Sto → Out SV} (F : FnM P w K mg base cl k fa fd ["script"] φ)
    (hφ : ∀ ns : List Int, ns.length ≤ 63 → φ [.s ns] [] = .ok (.d (.bool true)) []) : FnOk P w K mg base (L2.CX P w) k fa fd ["script"] (spLaw K) := F.imp fun vs H Q E ⟨a, ns, h1, h2, h3, h4⟩ => by
  subst h1
  refine ⟨[.s ns], [], [], H, rfl, .cons ⟨a, rfl, h2⟩ .nil, ⟨Evl.Ex.refl _, rfl, List.nodup_nil, fun i o e => by simp at e, rfl, fun i o e => by simp at e⟩, ?_⟩
  rw [hφ ns h3]
  intro H' τ' B' e r v hv
  have hv : DR K B' v (.bool true) := hv
  cases hv
  exact h4 H'
theorem walk_M {l : PySem.W.OpenLaw} {q : Program} {loose : List Str} {XP : (Str → Option Value) → Heap → Prop} {YP : World → Heap → Prop} {d : DefRec} {K : Params → PySem.W.Frag} {k : Nat} (hn : l.most = some 63) (hdf : d.params.defaults = []) (hk : Room k callerA)
    (hY : ∀ (w : World) (h : Heap), YP w h → (K w.params).In h)
    (F : ∀ (w : World) (mg : Str → Option Value) (fa : Addr) (h : Heap), (K w.params).In h → h.Ns mainGlobals mg → mg d.name = some (.ref fa) →
      ∃ fd : FuncData, (∀ (s : Shared) (u : Value), BindsTo s fd ⟨[u], []⟩ [("script", u)]) ∧ ∀ base : Heap, (K w.params).In base → base.Ns mainGlobals mg → FnOk l.prog w (K w.params) mg base (L2.CX l.prog w) k fa fd ["script"] (spLaw (K w.params))) :
    PySem.W.WalkO q loose XP YP l.row.toRowW d [] (fun f vs => PySem.call f vs) :=
  L2.walk_of (n := 63) (k := k) (x := "script") (CX := fun w => L2.CX l.prog w) (sp := fun w => spLaw (K w.params)) hn (by decide) hdf hk hY F (fun _ _ a ns hl _ hS => ⟨a, ns, rfl, hS, hl, fun _ => rfl⟩) fun _ _ _ _ _ z => by
    obtain ⟨_, _, _, _, _, _, _, _, _, _, _, _, h⟩ := z
    exact h.elim
end Z

/-! Z13: list(zip(u, v)), both lists or both tuples. -/
namespace Z
open PySem PySem.Spec PySem.Calls L2
open PyProof.Rows hiding St
section
variable {prog : Program} {w : World} {A : Around} {E : Value → Shared → Prop} {s : Shared} {z TI TO i1 i2 T : Addr} {fp1 fp2 : List Addr} {n1 n2 i : Nat} {P1 P2 : Nat → Value → Prop} {St1 St2 : Nat → Heap → Prop} {f : Bool} {oT : Obj}
theorem zipH_next_item {Q : Value → Shared → Prop} (S : ZipSep2 z TI TO i1 i2 fp1 fp2) (D1 : Draws prog w A i1 fp1 n1 P1 St1) (D2 : Draws prog w A i2 fp2 n2 P2 St2)
    (hz : IsZipHeld s.heap z TI TO T f) (hT : s.heap.get? T = some oT) (hTI : IsTupOf2 s.heap TI (.ref i1) (.ref i2)) (st1 : St1 i s.heap) (st2 : St2 i s.heap) (hlt1 : i < n1) (hlt2 : i < n2)
    (hQ : ∀ x1 x2 h' tk, P1 i x1 → P2 i x2 → IsZipHeld h' z TI TO T true → St1 (i + 1) h' → St2 (i + 1) h' → IsTupOf2 h' s.heap.objs.size x1 x2 → h'.objs.size = s.heap.objs.size + 1 →
      (∀ c o, c ≠ z → c ≠ i1 → c ≠ i2 → s.heap.get? c = some o → h'.get? c = some o) → Q (.ref s.heap.objs.size) { s with heap := h', toks := tk }) :
    wpAny (model prog w) A (Builtin.«zip.__next__» ⟨[.ref z], []⟩) (fun fin s' => ∃ v, fin = .done (.ret v) ∧ Q v s') E s := by
  obtain ⟨hp, g, d, tk0, os⟩ := s
  show wpAny _ _ (field (.ref z) 2 >>= _) _ _ _
  refine wpAny_bind (wpAny_field hz rfl (x := .bool false) rfl ?_)
  show wpAny _ _ (field (.ref z) 3 >>= _) _ _ _
  refine wpAny_bind (wpAny_field hz rfl (x := .ref TI) rfl ?_)
  refine wpAny_bind (wpAny_seqItems hTI rfl ?_)
  show wpAny _ _ (Builtin.SmallTypes.ownedTupleIsFree (.ref z) >>= _) _ _ _
  refine wpAny_bind (wpAny_tupleHeld_zip hz hT fun h₁ hz₁ hs₁ => ?_)
  replace hs₁ : Heap.SameBut z hp h₁ := hs₁
  simp only [Bool.false_eq_true, if_false]
  refine wpAny_bind ?_
  rw [← Array.forIn_toList]
  simp only [List.forIn_cons, List.forIn_nil]
  refine wpAny_bind (wpAny_bind (wpAny_holding ?_))
  show wpAny _ _ (Builtin.SmallTypes.nextOf (.ref i1) >>= _) _ _ ⟨h₁, g, d, tk0, os⟩
  refine wpAny_bind (D1.item i _ _ _ hlt1 (D1.over st1 hs₁ S.zf1) fun x1 h₂ tk1 hx1 sn1 hs₂ => wpAny_pure ?_)
  replace hs₂ : Heap.SameBut i1 h₁ h₂ := hs₂
  refine wpAny_pure ?_
  refine wpAny_bind (wpAny_bind (wpAny_holding ?_))
  show wpAny _ _ (Builtin.SmallTypes.nextOf (.ref i2) >>= _) _ _ ⟨h₂, g, d, tk1, os⟩
  refine wpAny_bind (D2.item i _ _ _ hlt2 (D2.over (D2.over st2 hs₁ S.zf2) hs₂ S.sep1_2) fun x2 h₃ tk2 hx2 sn2 hs₃ => wpAny_pure ?_)
  replace hs₃ : Heap.SameBut i2 h₂ h₃ := hs₃
  refine wpAny_pure (wpAny_pure ?_)
  show wpAny _ _ (newTuple [x1, x2] >>= _) _ _ _
  refine wpAny_bind (wpAny_newTuple ?_)
  have hsz : h₃.objs.size = hp.objs.size := by rw [hs₃.1, hs₂.1, hs₁.1]
  have hz₃ : IsZipHeld h₃ z TI TO T true := hs₃.extBut _ _ S.zi2 (hs₂.extBut _ _ S.zi1 hz₁)
  have hk : ∀ c o, c ≠ z → c ≠ i1 → c ≠ i2 → hp.get? c = some o → h₃.get? c = some o := fun c o c1 c2 c3 e => hs₃.extBut _ _ c3 (hs₂.extBut _ _ c2 (hs₁.extBut _ _ c1 e))
  have h1₃ : St1 (i + 1) h₃ := D1.over sn1 hs₃ S.sep2_1
  refine wpAny_pure ⟨_, rfl, ?_⟩
  show Q (.ref h₃.objs.size) ⟨_, g, d, tk2, os⟩
  have hp' : IsTupOf2 (h₃.push { cls := .type "tuple", data := .seq #[x1, x2] }) h₃.objs.size x1 x2 := Heap.get?_push_size _ rfl
  have hz4 : (h₃.push { cls := .type "tuple", data := .seq #[x1, x2] }).objs.size = h₃.objs.size + 1 := Heap.size_push ..
  rw [hsz] at hp' hz4 ⊢
  exact hQ x1 x2 _ tk2 hx1 hx2 (Heap.get?_push_of_some _ hz₃) (D1.frame _ _ _ h1₃ fun b _ o e => Heap.get?_push_of_some _ e) (D2.frame _ _ _ sn2 fun b _ o e => Heap.get?_push_of_some _ e) hp' hz4 fun c o c1 c2 c3 e => Heap.get?_push_of_some _ (hk c o c1 c2 c3 e)
theorem zipH_next_end {Q : Fin → Shared → Prop} (S : ZipSep2 z TI TO i1 i2 fp1 fp2) (D1 : Draws prog w A i1 fp1 n1 P1 St1) (D2 : Draws prog w A i2 fp2 n2 P2 St2)
    (hz : IsZipHeld s.heap z TI TO T f) (hT : s.heap.get? T = some oT) (hTI : IsTupOf2 s.heap TI (.ref i1) (.ref i2)) (st1 : St1 i s.heap) (st2 : St2 i s.heap) (hle1 : i ≤ n1) (hle2 : i ≤ n2) (hend : i = n1 ∨ i = n2)
    (hE : ∀ h' tk e, (∀ c o, c ≠ z → c ≠ i1 → c ≠ i2 → s.heap.get? c = some o → h'.get? c = some o) → (∃ o, h'.get? e = some o ∧ o.cls = .type "StopIteration") → E (.ref e) { s with heap := h', toks := tk }) :
    wpAny (model prog w) A (Builtin.«zip.__next__» ⟨[.ref z], []⟩) Q E s := by
  obtain ⟨hp, g, d, tk0, os⟩ := s
  show wpAny _ _ (field (.ref z) 2 >>= _) _ _ _
  refine wpAny_bind (wpAny_field hz rfl (x := .bool false) rfl ?_)
  show wpAny _ _ (field (.ref z) 3 >>= _) _ _ _
  refine wpAny_bind (wpAny_field hz rfl (x := .ref TI) rfl ?_)
  refine wpAny_bind (wpAny_seqItems hTI rfl ?_)
  show wpAny _ _ (Builtin.SmallTypes.ownedTupleIsFree (.ref z) >>= _) _ _ _
  refine wpAny_bind (wpAny_tupleHeld_zip hz hT fun h₁ hz₁ hs₁ => ?_)
  replace hs₁ : Heap.SameBut z hp h₁ := hs₁
  simp only [Bool.false_eq_true, if_false]
  refine wpAny_bind ?_
  rw [← Array.forIn_toList]
  simp only [List.forIn_cons, List.forIn_nil]
  refine wpAny_bind (wpAny_bind (wpAny_holding ?_))
  show wpAny _ _ (Builtin.SmallTypes.nextOf (.ref i1) >>= _) _ _ ⟨h₁, g, d, tk0, os⟩
  by_cases hlt1 : i < n1
  · have hi2 : i = n2 := by omega
    refine wpAny_bind (D1.item i _ _ _ hlt1 (D1.over st1 hs₁ S.zf1) fun x1 h₂ tk1 hx1 sn1 hs₂ => wpAny_pure ?_)
    replace hs₂ : Heap.SameBut i1 h₁ h₂ := hs₂
    refine wpAny_pure ?_
    refine wpAny_bind (wpAny_bind (wpAny_holding ?_))
    show wpAny _ _ (Builtin.SmallTypes.nextOf (.ref i2) >>= _) _ _ ⟨h₂, g, d, tk1, os⟩
    refine wpAny_bind (D2.done ⟨h₂, g, d, tk1, os⟩ _ _ (by rw [← hi2]; exact D2.over (D2.over st2 hs₁ S.zf2) hs₂ S.sep1_2) fun q e hq he => ?_)
    exact hE q tk1 e (fun c o c1 c2 c3 x => hq _ _ c3 (hs₂.extBut _ _ c2 (hs₁.extBut _ _ c1 x))) he
  · have hi1 : i = n1 := by omega
    refine wpAny_bind (D1.done ⟨h₁, g, d, tk0, os⟩ _ _ (by rw [← hi1]; exact D1.over st1 hs₁ S.zf1) fun q e hq he => ?_)
    exact hE q tk0 e (fun c o c1 c2 _ x => hq _ _ c2 (hs₁.extBut _ _ c1 x)) he
theorem pyNext_zipH_item {Q : Option Value → Shared → Prop} (S : ZipSep2 z TI TO i1 i2 fp1 fp2) (D1 : Draws prog w A.in1 i1 fp1 n1 P1 St1) (D2 : Draws prog w A.in1 i2 fp2 n2 P2 St2)
    (hz : IsZipHeld s.heap z TI TO T f) (hT : s.heap.get? T = some oT) (hTI : IsTupOf2 s.heap TI (.ref i1) (.ref i2)) (st1 : St1 i s.heap) (st2 : St2 i s.heap) (hlt1 : i < n1) (hlt2 : i < n2)
    (hQ : ∀ x1 x2 h' tk, P1 i x1 → P2 i x2 → IsZipHeld h' z TI TO T true → St1 (i + 1) h' → St2 (i + 1) h' → IsTupOf2 h' s.heap.objs.size x1 x2 → h'.objs.size = s.heap.objs.size + 1 →
      (∀ c o, c ≠ z → c ≠ i1 → c ≠ i2 → s.heap.get? c = some o → h'.get? c = some o) → Q (some (.ref s.heap.objs.size)) { s with heap := h', toks := tk }) :
    wpAny (model prog w) A (pyNext (.ref z)) Q E s := by
  have hTy : s.TypeIs (.ref z) "zip" := ⟨_, hz, rfl⟩
  unfold pyNext
  exact wpAny_bind (wpAny_attempt (wpAny_callSpecial?_slot (name := Str.ofString "__next__") hTy F.slot_zip_next
    (wpAny_call_entry F.slot_zip_next hTy F.entry_zip_next
      (zipH_next_item S D1 D2 hz hT hTI st1 st2 hlt1 hlt2 fun x1 x2 h' tk y1 y2 b1 d1 d2 b5 b6 b7 => wpAny_pure (hQ x1 x2 h' tk y1 y2 b1 d1 d2 b5 b6 b7)) (F.args_zip_next_1 _))))
theorem pyNext_zipH_end {Q : Option Value → Shared → Prop} (S : ZipSep2 z TI TO i1 i2 fp1 fp2) (D1 : Draws prog w A.in1 i1 fp1 n1 P1 St1) (D2 : Draws prog w A.in1 i2 fp2 n2 P2 St2)
    (hz : IsZipHeld s.heap z TI TO T f) (hT : s.heap.get? T = some oT) (hTI : IsTupOf2 s.heap TI (.ref i1) (.ref i2)) (st1 : St1 i s.heap) (st2 : St2 i s.heap) (hle1 : i ≤ n1) (hle2 : i ≤ n2) (hend : i = n1 ∨ i = n2)
    (hQ : ∀ h' tk, (∀ c o, c ≠ z → c ≠ i1 → c ≠ i2 → s.heap.get? c = some o → h'.get? c = some o) → Q none { s with heap := h', toks := tk }) : wpAny (model prog w) A (pyNext (.ref z)) Q E s := by
  have hTy : s.TypeIs (.ref z) "zip" := ⟨_, hz, rfl⟩
  unfold pyNext
  refine wpAny_bind (wpAny_attempt (wpAny_callSpecial?_slot (name := Str.ofString "__next__") hTy F.slot_zip_next
    (wpAny_call_entry F.slot_zip_next hTy F.entry_zip_next (zipH_next_end S D1 D2 hz hT hTI st1 st2 hle1 hle2 hend fun h' tk e hk he => ?_) (F.args_zip_next_1 _))))
  obtain ⟨o, ho, hc⟩ := he
  refine wpAny_bind (wpAny_isInstance (T := "StopIteration") (b := true) ⟨o, ho, hc⟩ isSubtype_stop ?_)
  exact wpAny_pure (hQ _ _ hk)

/-- a zip on the way, the list L beside it -/
structure ZL (St1 St2 : Nat → Heap → Prop) (z TI TO i1 i2 L : Addr) (h : Heap) (i : Nat) : Prop where
  ti : IsTupOf2 h TI (.ref i1) (.ref i2)
  s1 : St1 i h
  s2 : St2 i h
  zz : (IsZip h z TI TO .none ∧ ∃ a b, IsTupOf2 h TO a b) ∨ ∃ T f o, IsZipHeld h z TI TO T f ∧ h.get? T = some o ∧ T ≠ z ∧ T ≠ i1 ∧ T ≠ i2 ∧ T ≠ L
theorem zl_item {L : Addr} {Q : Option Value → Shared → Prop} (S : ZipSep2 z TI TO i1 i2 fp1 fp2) (D1 : Draws prog w A.in1 i1 fp1 n1 P1 St1) (D2 : Draws prog w A.in1 i2 fp2 n2 P2 St2)
    (hi1 : i1 < s.heap.objs.size) (hi2 : i2 < s.heap.objs.size) (hL : L < s.heap.objs.size) (Z : ZL St1 St2 z TI TO i1 i2 L s.heap i) (hlt1 : i < n1) (hlt2 : i < n2)
    (hQ : ∀ x1 x2 h' tk, P1 i x1 → P2 i x2 → ZL St1 St2 z TI TO i1 i2 L h' (i + 1) → IsTupOf2 h' s.heap.objs.size x1 x2 → h'.objs.size = s.heap.objs.size + 1 →
      (∀ c o, c ≠ z → c ≠ TO → c ≠ i1 → c ≠ i2 → s.heap.get? c = some o → h'.get? c = some o) → Q (some (.ref s.heap.objs.size)) { s with heap := h', toks := tk }) :
    wpAny (model prog w) A (pyNext (.ref z)) Q E s := by
  rcases Z.zz with ⟨hz, a, b, hTO⟩ | ⟨T, f, o, hz, hT, t1, t2, t3, t4⟩
  · have hzl : z < s.heap.objs.size := Heap.lt_size hz
    refine wpAny_pyNext_zipD2_item S D1 D2 hz Z.ti hTO Z.s1 Z.s2 hlt1 hlt2 fun x1 x2 h' tk y1 y2 b1 b2 d1 d2 b5 b6 b7 => ?_
    exact hQ x1 x2 h' tk y1 y2 ⟨b7 _ _ S.TIz S.TITO S.TIi1 S.TIi2 Z.ti, d1, d2, .inr ⟨_, _, _, b1, b5, Nat.ne_of_gt hzl, Nat.ne_of_gt hi1, Nat.ne_of_gt hi2, Nat.ne_of_gt hL⟩⟩ b5 b6 b7
  · refine pyNext_zipH_item S D1 D2 hz hT Z.ti Z.s1 Z.s2 hlt1 hlt2 fun x1 x2 h' tk y1 y2 b1 d1 d2 b5 b6 b7 => ?_
    exact hQ x1 x2 h' tk y1 y2 ⟨b7 _ _ S.TIz S.TIi1 S.TIi2 Z.ti, d1, d2, .inr ⟨_, _, _, b1, b7 _ _ t1 t2 t3 hT, t1, t2, t3, t4⟩⟩ b5 b6 fun c o c1 _ c3 c4 e => b7 c o c1 c3 c4 e
theorem zl_end {L : Addr} {Q : Option Value → Shared → Prop} (S : ZipSep2 z TI TO i1 i2 fp1 fp2) (D1 : Draws prog w A.in1 i1 fp1 n1 P1 St1) (D2 : Draws prog w A.in1 i2 fp2 n2 P2 St2)
    (Z : ZL St1 St2 z TI TO i1 i2 L s.heap i) (hle1 : i ≤ n1) (hle2 : i ≤ n2) (hend : i = n1 ∨ i = n2)
    (hQ : ∀ h' tk, (∀ c o, c ≠ z → c ≠ TO → c ≠ i1 → c ≠ i2 → s.heap.get? c = some o → h'.get? c = some o) → Q none { s with heap := h', toks := tk }) :
    wpAny (model prog w) A (pyNext (.ref z)) Q E s := by
  rcases Z.zz with ⟨hz, a, b, hTO⟩ | ⟨T, f, o, hz, hT, t1, t2, t3, t4⟩
  · exact wpAny_pyNext_zipD2_end S D1 D2 hz Z.ti hTO Z.s1 Z.s2 hle1 hle2 hend fun h' tk hk => hQ h' tk hk
  · exact pyNext_zipH_end S D1 D2 hz hT Z.ti Z.s1 Z.s2 hle1 hle2 hend fun h' tk hk => hQ h' tk fun c o c1 _ c3 c4 e => hk c o c1 c3 c4 e
/-- the pairs gathered -/
structure ZG (P1 P2 : Nat → Value → Prop) (lo : Addr) (h : Heap) (as : List Addr) : Prop where
  rise : as.Pairwise (· < ·)
  above : ∀ a ∈ as, lo ≤ a
  pairs : ∀ (j : Nat) (a : Addr), as[j]? = some a → ∃ x y, IsTupOf2 h a x y ∧ P1 j x ∧ P2 j y
theorem ZG.there {lo : Addr} {h : Heap} {as : List Addr} (g : ZG P1 P2 lo h as) {a : Addr} (ha : a ∈ as) : a < h.objs.size := by
  obtain ⟨j, hj⟩ := List.mem_iff_getElem?.mp ha
  obtain ⟨_, _, e, _⟩ := g.pairs j a hj
  exact Heap.lt_size e
theorem zl_loop {R : Result → Shared → Prop} (S : ZipSep2 z TI TO i1 i2 fp1 fp2) (D1 : Draws prog w A.in1.in1 i1 fp1 n1 P1 St1) (D2 : Draws prog w A.in1.in1 i2 fp2 n2 P2 St2) {L lo : Addr}
    (Lz : L ≠ z) (LTI : L ≠ TI) (LTO : L ≠ TO) (Lf1 : L ∉ fp1) (Lf2 : L ∉ fp2) (lz : z < lo) (lTO : TO < lo) (l1 : i1 < lo) (l2 : i2 < lo) (lL : L < lo) (n : Nat) (en : n = min n1 n2) (hn : n ≤ sizeLine) (res : Value) {h₁ : Heap}
    (hR : ∀ h' tk acc c as, (∀ b o, b ≠ L → b ≠ z → b ≠ TO → b ≠ i1 → b ≠ i2 → h₁.get? b = some o → h'.get? b = some o) → h'.get? L = some { cls := .type "list", dict := none, data := .seq acc c, slots := #[] } → as.length = n → ZG P1 P2 lo h' as →
      acc.toList = as.map Value.ref → R (.ok (.ret res)) { s with heap := h', toks := tk }) :
    ∀ (k i : Nat) (h : Heap) (tk c : Nat) (acc : Array Value) (as : List Addr), n - i = k → i ≤ n → ZL St1 St2 z TI TO i1 i2 L h i → (∀ b o, b ≠ L → b ≠ z → b ≠ TO → b ≠ i1 → b ≠ i2 → h₁.get? b = some o → h.get? b = some o) →
      h.get? L = some { cls := .type "list", dict := none, data := .seq acc c, slots := #[] } → acc.toList = as.map Value.ref → as.length = i → ZG P1 P2 lo h as → lo ≤ h.objs.size →
      codeAny (model prog w) A (.builtin "list.extend.loop" ⟨[.ref L, .ref z, res], []⟩) R { s with heap := h, toks := tk } := by
  intro k
  have L1 : L ≠ i1 := fun e => Lf1 (e ▸ S.mem1)
  have L2 : L ≠ i2 := fun e => Lf2 (e ▸ S.mem2)
  induction k with
  | zero =>
    intro i h tk c acc as hk hi hst hkeep hS hacc hal hG hIs
    have hin : i = n := by omega
    refine codeAny_builtin PySem.F.entry_extend_loop ?_
    rw [Around.under_plainId PySem.F.plain_extend_loop _]
    show wpAny _ A.in1 (pyNext (.ref z) >>= _) _ _ _
    refine wpAny_bind (zl_end (s := { s with heap := h, toks := tk }) (A := A.in1) S D1 D2 hst (by omega) (by omega) (by omega) fun h' tk' he => ?_)
    refine wpAny_pure (hR h' tk' acc c as (fun b o h1 h2 h3 h4 h5 e => he b o h2 h3 h4 h5 (hkeep b o h1 h2 h3 h4 h5 e)) (he L _ Lz LTO L1 L2 hS) (by omega) ⟨hG.rise, hG.above, fun j a hj => ?_⟩ hacc)
    obtain ⟨x, y, e3, p1, p2⟩ := hG.pairs j a hj
    have hb := hG.above a (List.mem_of_getElem? hj)
    exact ⟨x, y, he a _ (Nat.ne_of_gt (Nat.lt_of_lt_of_le lz hb)) (Nat.ne_of_gt (Nat.lt_of_lt_of_le lTO hb)) (Nat.ne_of_gt (Nat.lt_of_lt_of_le l1 hb)) (Nat.ne_of_gt (Nat.lt_of_lt_of_le l2 hb)) e3, p1, p2⟩
  | succ k ih =>
    intro i h tk c acc as hk hi hst hkeep hS hacc hal hG hIs
    have hlt : i < n := by omega
    have hsz : acc.size = i := by rw [← Array.length_toList, hacc, List.length_map, hal]
    refine codeAny_builtin PySem.F.entry_extend_loop ?_
    rw [Around.under_plainId PySem.F.plain_extend_loop _]
    show wpAny _ A.in1 (pyNext (.ref z) >>= _) _ _ _
    refine wpAny_bind (zl_item (s := { s with heap := h, toks := tk }) (A := A.in1) S D1 D2 (Nat.lt_of_lt_of_le l1 hIs) (Nat.lt_of_lt_of_le l2 hIs) (Heap.lt_size hS) hst (by omega) (by omega) fun x1 x2 h' tk' y1 y2 hst' ht hz hkp => ?_)
    dsimp only at ht hz hkp ⊢
    have hS' := hkp L _ Lz LTO L1 L2 hS
    have up : ∀ b o, b ≠ L → h'.get? b = some o → (h'.update L (Obj.mapSeq (·.push (Value.ref h.objs.size)))).get? b = some o := fun b o hb e => (Heap.get?_update_other _ _ (Ne.symm hb)).trans e
    have hSl : L < h.objs.size := Heap.lt_size hS
    have hst2 : ZL St1 St2 z TI TO i1 i2 L (h'.update L (Obj.mapSeq (·.push (Value.ref h.objs.size)))) (i + 1) := by
      refine ⟨up _ _ (Ne.symm LTI) hst'.ti, D1.frame _ _ _ hst'.s1 fun b hb o e => up b o (fun q => Lf1 (q ▸ hb)) e, D2.frame _ _ _ hst'.s2 fun b hb o e => up b o (fun q => Lf2 (q ▸ hb)) e, ?_⟩
      rcases hst'.zz with ⟨hz, a, b, hTO⟩ | ⟨T, f, o, hz, hT, t1, t2, t3, t4⟩
      · exact .inl ⟨up _ _ (Ne.symm Lz) hz, a, b, up _ _ (Ne.symm LTO) hTO⟩
      · exact .inr ⟨T, f, o, up _ _ (Ne.symm Lz) hz, up _ _ t4 hT, t1, t2, t3, t4⟩
    show wpAny _ A.in1 (updateSeq L (·.push (Value.ref h.objs.size)) >>= _) _ _ _
    refine wpAny_bind ?_
    refine wpAny_updateSeq hS' rfl (wpAny_pure ⟨plainId_quiet PySem.F.plain_extend_loop _, ih (i + 1) _ tk' _ (acc.push (Value.ref h.objs.size)) (as ++ [h.objs.size]) (by omega) hlt hst2
      (fun b o h1 h2 h3 h4 h5 e => up b o h1 (hkp b o h2 h3 h4 h5 (hkeep b o h1 h2 h3 h4 h5 e))) (Heap.get?_update_self _ hS' rfl) (by rw [Array.toList_push, hacc, List.map_append]; rfl) (by rw [List.length_append, hal]; rfl) ⟨?_, ?_, ?_⟩ ?_⟩) (by rw [hsz]; omega) (by show (acc.push (Value.ref h.objs.size)).size ≤ sizeLine + 1; rw [Array.size_push, hsz]; omega)
    · refine List.pairwise_append.mpr ⟨hG.rise, List.pairwise_singleton _ _, fun a ha b hb => ?_⟩
      rw [List.mem_singleton.mp hb]
      exact hG.there ha
    · intro a ha
      rcases List.mem_append.mp ha with ha | ha
      · exact hG.above a ha
      · rw [List.mem_singleton.mp ha]; exact hIs
    · intro j b hj
      rcases Nat.lt_trichotomy j as.length with h1 | h1 | h1
      · rw [List.getElem?_append_left h1] at hj
        obtain ⟨x, y, e3, p1, p2⟩ := hG.pairs j b hj
        have hb := hG.above b (List.mem_of_getElem? hj)
        exact ⟨x, y, up b _ (Nat.ne_of_gt (Nat.lt_of_lt_of_le lL hb)) (hkp b _ (Nat.ne_of_gt (Nat.lt_of_lt_of_le lz hb)) (Nat.ne_of_gt (Nat.lt_of_lt_of_le lTO hb)) (Nat.ne_of_gt (Nat.lt_of_lt_of_le l1 hb)) (Nat.ne_of_gt (Nat.lt_of_lt_of_le l2 hb)) e3), p1, p2⟩
      · subst h1
        have hb : h.objs.size = b := by simpa using hj
        subst hb
        subst hal
        exact ⟨x1, x2, up _ _ (Nat.ne_of_gt hSl) ht, y1, y2⟩
      · have hnone : (as ++ [h.objs.size])[j]? = none := List.getElem?_eq_none (by rw [List.length_append, List.length_singleton]; omega)
        rw [hnone] at hj; cases hj
    · have e : (h'.update L (Obj.mapSeq (·.push (Value.ref h.objs.size)))).get? h.objs.size = _ := up _ _ (Nat.ne_of_gt hSl) ht
      exact Nat.le_trans hIs (Nat.le_of_lt (Heap.lt_size e))
end
end Z

/-! Z14: list(zip(u, v)): the call. -/
namespace Z
open PySem PySem.Spec PySem.Calls L2
open PyProof.Rows hiding St
theorem zip_no_len : typeLookup (.type "zip") "__len__" = pure none := am_miss_of_fast (by decide +kernel)
theorem zip_no_hint : typeLookup (.type "zip") "__length_hint__" = pure none := am_miss_of_fast (by decide +kernel)
section
variable {prog : Program} {w : World} {A : Around} {E : Value → Shared → Prop} {s : Shared} {z TI TO i1 i2 : Addr} {fp1 fp2 : List Addr} {n1 n2 : Nat} {P1 P2 : Nat → Value → Prop} {St1 St2 : Nat → Heap → Prop}
theorem zl_hint {Q : Bool → Shared → Prop} (hT : s.TypeIs (.ref z) "zip") (h : Q true s) : wpAny (model prog w) A (Builtin.List.listLengthHint (.ref z)) Q E s := by
  unfold Builtin.List.listLengthHint
  refine wpAny_bind (wpAny_specialOf hT zip_no_len ?_)
  show wpAny _ _ (specialOf (.ref z) "__length_hint__" >>= _) _ _ s
  refine wpAny_bind (wpAny_specialOf hT zip_no_hint ?_)
  exact wpAny_pure h
theorem zl_call {Q : Value → Shared → Prop} (hh : A.handled = none) (S : ZipSep2 z TI TO i1 i2 fp1 fp2) (D1 : Draws prog w A.in1.in1.in1 i1 fp1 n1 P1 St1) (D2 : Draws prog w A.in1.in1.in1 i2 fp2 n2 P2 St2)
    (hz : IsZip s.heap z TI TO .none) (hTI : IsTupOf2 s.heap TI (.ref i1) (.ref i2)) (hTO : IsTupOf2 s.heap TO .none .none) (st1 : St1 0 s.heap) (st2 : St2 0 s.heap) (f1 : ∀ b ∈ fp1, b < s.heap.objs.size) (f2 : ∀ b ∈ fp2, b < s.heap.objs.size) (hn : min n1 n2 ≤ sizeLine)
    (hQ : ∀ h' tk acc c as, (∀ b o, b ≠ z → b ≠ TO → b ≠ i1 → b ≠ i2 → s.heap.get? b = some o → h'.get? b = some o) → h'.get? s.heap.objs.size = some { cls := .type "list", dict := none, data := .seq acc c, slots := #[] } → as.length = min n1 n2 → ZG P1 P2 (s.heap.objs.size + 1) h' as →
      acc.toList = as.map Value.ref → Q (.ref s.heap.objs.size) { s with heap := h', toks := tk }) :
    wpAny (model prog w) A (call (.type "list") [.ref z]) Q E s := by
  have zl : z < s.heap.objs.size := Heap.lt_size hz
  have tl : TI < s.heap.objs.size := Heap.lt_size hTI
  have ol : TO < s.heap.objs.size := Heap.lt_size hTO
  have l1 : i1 < s.heap.objs.size := f1 _ S.mem1
  have l2 : i2 < s.heap.objs.size := f2 _ S.mem2
  refine callType_codes (Q₁ := fun obj s₁ => obj = .ref s.heap.objs.size ∧ s₁ = { s with heap := s.heap.push { cls := .type "list", data := .seq #[] } }) PySem.F.called_list (PySem.F.typeCall_list_1 _) PySem.F.entry_list_init
    (code_list_new _ ⟨rfl, rfl⟩) fun obj s₁ h₁ => ?_
  obtain ⟨rfl, rfl⟩ := h₁
  have hS : (s.heap.push { cls := .type "list", data := .seq #[] }).get? s.heap.objs.size = some { cls := .type "list", data := .seq #[] } := Heap.get?_push_size _ rfl
  have key : ∀ (h : Heap) (c₁ tk : Nat), (∀ b o, b ≠ s.heap.objs.size → s.heap.get? b = some o → h.get? b = some o) → h.get? s.heap.objs.size = some { cls := .type "list", data := .seq #[] c₁ } → s.heap.objs.size + 1 ≤ h.objs.size →
      codeAny (model prog w) A.in1 (.builtin "list.extend.loop" ⟨[.ref s.heap.objs.size, .ref z, .none], []⟩) (fun q s' => q = .ok (.ret .none) ∧ Q (.ref s.heap.objs.size) s') { s with heap := h, toks := tk } := fun h c₁ tk hk hS₁ hsz => by
    have up : ∀ b o, b < s.heap.objs.size → s.heap.get? b = some o → h.get? b = some o := fun b o hb e => hk b o (Nat.ne_of_lt hb) e
    refine zl_loop (prog := prog) (w := w) (s := s) (h₁ := s.heap) (R := fun q s' => q = .ok (.ret .none) ∧ Q (.ref s.heap.objs.size) s') S D1 D2 (L := s.heap.objs.size) (lo := s.heap.objs.size + 1) (Nat.ne_of_gt zl) (Nat.ne_of_gt tl) (Nat.ne_of_gt ol) (fun q => Nat.lt_irrefl _ (f1 _ q)) (fun q => Nat.lt_irrefl _ (f2 _ q))
      (Nat.lt_succ_of_lt zl) (Nat.lt_succ_of_lt ol) (Nat.lt_succ_of_lt l1) (Nat.lt_succ_of_lt l2) (Nat.lt_succ_self _) (min n1 n2) rfl hn .none (fun h' tk' acc c as hk' hS' hl hG hacc => ⟨rfl, hQ h' tk' acc c as (fun b o h2 h3 h4 h5 e => hk' b o (Nat.ne_of_lt (Heap.lt_size e)) h2 h3 h4 h5 e) hS' hl hG hacc⟩)
      (min n1 n2) 0 h tk c₁ #[] [] (Nat.sub_zero _) (Nat.zero_le _) ⟨up _ _ tl hTI, D1.frame _ _ _ st1 fun b hb o e => up b o (f1 b hb) e, D2.frame _ _ _ st2 fun b hb o e => up b o (f2 b hb) e, .inl ⟨up _ _ zl hz, _, _, up _ _ ol hTO⟩⟩
      (fun b o _ _ _ _ _ e => up b o (Heap.lt_size e) e) hS₁ rfl rfl ⟨List.Pairwise.nil, (fun _ ha => nomatch ha), (fun j a hj => by simp at hj)⟩ hsz
  refine ⟨⟨_, hS, rfl⟩, PySem.F.args_list_init_2 _ _, ?_⟩
  show wpAny _ _ (do let old ← Builtin.List.listItems (.ref s.heap.objs.size); Builtin.List.listUpdate (.ref s.heap.objs.size) (fun _ => #[]); letGo old.toList.reverse; Builtin.List.listExtendWith (.ref s.heap.objs.size) (.ref z) .none) _ _ _
  refine wpAny_bind ?_
  unfold Builtin.List.listItems
  refine wpAny_bind (wpAny_seqItems hS rfl (wpAny_pure ?_))
  show wpAny _ _ (updateSeq s.heap.objs.size (fun _ => #[]) >>= fun _ => letGo (#[] : Array Value).toList.reverse >>= fun _ => Builtin.List.listExtendWith (.ref s.heap.objs.size) (.ref z) .none) _ _ _
  refine wpAny_bind (wpAny_updateSeq hS rfl ?_)
  have hS₂ := Heap.get?_update_self (Obj.mapSeq (fun _ => (#[] : Array Value))) hS rfl
  have oth : ∀ b o, b ≠ s.heap.objs.size → s.heap.get? b = some o → ((s.heap.push { cls := .type "list", data := .seq #[] }).update s.heap.objs.size (Obj.mapSeq (fun _ => (#[] : Array Value)))).get? b = some o :=
    fun b o hb e => (Heap.get?_update_other _ _ (Ne.symm hb)).trans (Heap.get?_push_of_some _ e)
  refine wpAny_bind (wpAny_letGo ?_)
  generalize hgen : (s.heap.push { cls := .type "list", data := .seq #[] }).update s.heap.objs.size (Obj.mapSeq (fun _ => (#[] : Array Value))) = h2 at hS₂ oth
  have sz2 : s.heap.objs.size + 1 ≤ h2.objs.size := Heap.lt_size hS₂
  have hz2 : IsZip h2 z TI TO .none := oth _ _ (Nat.ne_of_lt zl) hz
  unfold Builtin.List.listExtendWith
  refine wpAny_bind (wpAny_typeOf (T := "zip") ⟨_, hz2, rfl⟩ ?_)
  have q1 : Builtin.List.listSameRef (.ref s.heap.objs.size) (.ref z) = false := by simp [Builtin.List.listSameRef, Nat.ne_of_gt zl]
  have q2 : (Value.type "zip" == Value.type "list") = false := by decide
  have q3 : (Value.type "zip" == Value.type "tuple") = false := by decide
  simp only [q1, q2, q3, Bool.or_false, Bool.false_eq_true, if_false]
  refine wpAny_bind (wpAny_pyIter_zip hz2 ?_)
  refine wpAny_bind (wpAny_holding (zl_hint ⟨_, hz2, rfl⟩ ?_))
  refine wpAny_ite_split (fun _ => ?_) (fun _ => wpAny_pure ⟨plainId_quiet PySem.F.plain_extend_loop _, codeAny_mono (key h2 _ _ oth hS₂ sz2) fun q s' y => ?_⟩)
  · refine wpAny_bind (wpAny_rule ?_)
    refine wpAny_bind ?_
    show wpAny _ _ (updateSeq s.heap.objs.size (·.push .none) >>= fun _ => updateSeq s.heap.objs.size (·.pop)) _ _ _
    refine wpAny_bind (wpAny_updateSeq hS₂ rfl ?_)
    have hS₃ := Heap.get?_update_self (Obj.mapSeq (·.push Value.none)) hS₂ rfl
    refine wpAny_updateSeq (hz := by seq_fits) hS₃ rfl ?_
    have hS₄ := Heap.get?_update_self (Obj.mapSeq (·.pop)) hS₃ rfl
    refine wpAny_pure ⟨plainId_quiet PySem.F.plain_extend_loop _, codeAny_mono (key _ _ _ (fun b o hb e => ?_) hS₄ (Heap.lt_size hS₄)) fun q s' y => ?_⟩
    · exact (Heap.get?_update_other _ _ (Ne.symm hb)).trans ((Heap.get?_update_other _ _ (Ne.symm hb)).trans (oth b o hb e))
    · obtain ⟨e, y⟩ := y
      subst e
      exact ⟨rfl, y⟩
  · obtain ⟨e, y⟩ := y
    subst e
    exact ⟨rfl, y⟩
end
end Z

/-! Z15: list(zip(u, v)): the rule. -/
namespace Z
open PySem PySem.Spec L2
open PyProof.Rows hiding St
/-- objects tracked at their addresses -/
def putO : Hp → List Addr → List HO → Hp
  | H, a :: as, o :: os => putO (upd H a o) as os
  | H, _, _ => H
theorem putO_off {b : Addr} : ∀ (as : List Addr) (os : List HO) (H : Hp), b ∉ as → putO H as os b = H b
  | [], _, _, _ => rfl
  | _ :: _, [], _, _ => rfl
  | a :: as, o :: os, H, h => by
    show putO (upd H a o) as os b = H b
    rw [putO_off as os _ (fun z => h (List.mem_cons_of_mem _ z)), upd_ne (fun z => h (by rw [z]; exact List.mem_cons_self))]
theorem putO_at : ∀ (as : List Addr) (os : List HO) (H : Hp), as.Nodup → ∀ {j : Nat} {a : Addr} {o : HO}, as[j]? = some a → os[j]? = some o → putO H as os a = some o
  | [], _, _, _, j, _, _, h, _ => by simp at h
  | a :: as, [], _, _, j, _, _, _, h => by simp at h
  | a :: as, o :: os, H, hn, 0, _, _, h1, h2 => by
    have hn' := List.nodup_cons.mp hn
    simp at h1 h2
    subst h1 h2
    show putO (upd H a o) as os a = some o
    rw [putO_off as os _ hn'.1, upd_same]
  | a :: as, o :: os, H, hn, j + 1, _, _, h1, h2 => putO_at as os (upd H a o) (List.nodup_cons.mp hn).2 (by simpa using h1) (by simpa using h2)
/-- the pairs of two rows, at their addresses -/
def ZP (H : Hp) (ts : List Addr) (xs ys : List V) : Prop := ts.length = min xs.length ys.length ∧ ∀ (j : Nat) (t : Addr), ts[j]? = some t → ∃ x y, xs[j]? = some x ∧ ys[j]? = some y ∧ H t = some (.tup [x, y])
def rZipL (K : PySem.W.Frag) : List V → Hp → VK → Prop := fun vs H Q => ∃ a b xs ys, vs = [.ref a, .ref b] ∧ (SqL K H a xs ∨ SqT K H a xs) ∧ (SqL K H b ys ∨ SqT K H b ys) ∧
  ∀ H' p ts, Xs H H' → H p = none → (∀ t ∈ ts, H t = none) → H' p = some (.lst (ts.map V.ref)) → (∀ b, b ∉ ts → b ≠ p → H' b = H b) → ZP H' ts xs ys → Q (.ref p) H'
section
variable {X : Cx} {pins : List (Addr × Obj)} {σ : L2.St} {H : Hp} {s : Shared}
theorem zip_laid {h' : Heap} {tk : Nat} {xs ys : List V} {us vs : List Value} {acc : Array Value} {c : Nat} {as : List Addr} {p lo : Addr} (I : Inv X pins σ H s) (hx : Vals xs us) (hy : Vals ys vs) (hz : xs.length ≤ sizeLine)
    (hk : ∀ b o, s.heap.get? b = some o → h'.get? b = some o) (hp : s.heap.objs.size ≤ p) (hpl : p < lo) (hS : h'.get? p = some { cls := .type "list", dict := none, data := .seq acc c, slots := #[] }) (hl : as.length = min us.length vs.length) (hG : ZG (fun i v => us[i]? = some v) (fun i v => vs[i]? = some v) lo h' as) (hacc : acc.toList = as.map Value.ref) :
    ∃ H' : Hp, Xs H H' ∧ H p = none ∧ (∀ t ∈ as, H t = none) ∧ H' p = some (.lst (as.map V.ref)) ∧ (∀ b, b ∉ as → b ≠ p → H' b = H b) ∧ ZP H' as xs ys ∧ Inv X pins σ H' { s with heap := h', toks := tk } := by
  have lx : xs.length = us.length := hx.length
  have ly : ys.length = vs.length := hy.length
  have hSn : p ∉ as := fun z => Nat.lt_irrefl _ (Nat.lt_of_lt_of_le hpl (hG.above _ z))
  have nd : as.Nodup := List.Pairwise.imp (fun {a b} (h : a < b) => Nat.ne_of_lt h) hG.rise
  have ab : ∀ t ∈ as, s.heap.objs.size ≤ t := fun t ht => Nat.le_of_lt (Nat.lt_of_le_of_lt hp (Nat.lt_of_lt_of_le hpl (hG.above t ht)))
  have new : ∀ t ∈ as, H t = none := fun t ht => I.hok.fresh (ab t ht)
  have newS : H p = none := I.hok.fresh hp
  let G : Hp := putO (upd H p (.lst (as.map V.ref))) as ((xs.zip ys).map fun q => HO.tup [q.1, q.2])
  have off : ∀ b, b ∉ as → b ≠ p → G b = H b := fun b h1 h2 => by
    show putO _ as _ b = H b
    rw [putO_off as _ _ h1, upd_ne h2]
  have atP : ∀ (j : Nat) (t : Addr), as[j]? = some t → ∃ x y, xs[j]? = some x ∧ ys[j]? = some y ∧ G t = some (.tup [x, y]) := fun j t e => by
    have jl : j < as.length := (List.getElem?_eq_some_iff.mp e).1
    have j1 : j < xs.length := by omega
    have j2 : j < ys.length := by omega
    refine ⟨xs[j], ys[j], List.getElem?_eq_getElem j1, List.getElem?_eq_getElem j2, putO_at as _ _ nd e ?_⟩
    have e0 : (xs.zip ys)[j]? = some (xs[j], ys[j]) := List.getElem?_zip_eq_some.mpr ⟨List.getElem?_eq_getElem j1, List.getElem?_eq_getElem j2⟩
    rw [List.getElem?_map, e0]
    rfl
  have low : ∀ b o, s.heap.get? b = some o → b ∉ as ∧ b ≠ p := fun b o e => ⟨fun z => absurd (Heap.lt_size e) (Nat.not_lt.mpr (ab b z)), fun z => absurd (Heap.lt_size e) (Nat.not_lt.mpr (by rw [z]; exact hp))⟩
  have kp : Xs H G := fun b u e => by
    rw [off b (fun z => by rw [new b z] at e; cases e) (fun z => by rw [z, newS] at e; cases e)]
    exact e
  have eS : G p = some (.lst (as.map V.ref)) := by
    show putO _ as _ p = _
    rw [putO_off as _ _ hSn, upd_same]
  refine ⟨G, kp, newS, new, eS, off, ⟨by omega, atP⟩, ?_⟩
  refine I.call' (ch := []) rfl ⟨fun b o q _ _ _ => hk b o q, fun b o q _ _ _ => ⟨o.slots, hk b o q⟩, fun b o q n _ => ?_, fun b o q _ => ⟨o, hk b o q⟩, fun b xs q => kp b _ q, fun b o u q => kp b _ q, fun b ps q => ⟨#[], by rw [kp b _ q]; simp⟩⟩ (fun b u q => ?_) I.bare fun b z => by simp at z
  · obtain ⟨z1, z2⟩ := low b o q
    rw [off b z1 z2]
    exact n
  · by_cases hb : b ∈ as
    · obtain ⟨j, e1⟩ := List.mem_iff_getElem?.mp hb
      obtain ⟨x, y, e2, e3, e4⟩ := atP j b e1
      rw [e4] at q
      cases q
      obtain ⟨u1, u2, f1, f2, f3⟩ := hG.pairs j b e1
      obtain ⟨u1', g1, g2⟩ := hx.get e2
      obtain ⟨u2', g3, g4⟩ := hy.get e3
      rw [f2] at g1
      rw [f3] at g3
      cases g1
      cases g3
      exact ⟨by show 2 ≤ sizeLine; decide, [u1, u2], .cons g2 (.cons g4 .nil), ⟨_, f1, rfl, _, rfl⟩⟩
    · by_cases hb2 : b = p
      · rw [hb2] at q ⊢
        rw [eS] at q
        cases q
        refine ⟨by rw [List.length_map]; omega, acc.toList, c, by rw [hacc]; exact LiI.vals_refs as, ?_⟩
        rw [Array.toArray_toList]
        exact hS
      · rw [off b hb hb2] at q
        exact (I.hok b u q).stay (fun d v _ y => hk d v y) (fun d y => kp d _ y) fun d xs y => kp d _ y
/-- a row that an iterator goes along -/
theorem sq_draws {a : Addr} {xs : List V} (I : Inv X pins σ H s) (h : SqL X.K H a xs ∨ SqT X.K H a xs) :
    ∃ (o : Obj) (Hc : Heap → Prop) (us : List Value) (St : Addr → Nat → Heap → Prop), Begins (.ref a) o Hc ∧ Hc s.heap ∧ Vals xs us ∧ xs.length ≤ sizeLine ∧ a < s.heap.objs.size ∧
      (∀ (A : Around) (it : Addr), A.handled = none → a ≠ it → Draws X.prog X.w A it [it, a] us.length (fun i v => us[i]? = some v) (St it)) ∧
      ∀ (h' : Heap) (it : Addr), h'.get? it = some o → (∀ b ob, s.heap.get? b = some ob → h'.get? b = some ob) → St it 0 h' := by
  rcases h with h | h
  · obtain ⟨us, rv, p, hl⟩ := I.list h
    refine ⟨_, _, us, fun it i h' => h'.IsListIter it a i ∧ h'.IsList a us.toArray, begins_list a us.toArray, p.isList, rv, hl, p.lt, fun A it hh ne => ?_, fun h' it e k => ⟨⟨_, e, rfl, rfl⟩, p.isList.at fun o q => k a o q⟩⟩
    have := Draws.list (prog := X.prog) (w := X.w) (A := A) hh it a ne us.toArray
    simpa using this
  · obtain ⟨us, rv, p, hl⟩ := I.tuple h
    have pt : s.heap.IsTuple a us.toArray := p
    have pl : a < s.heap.objs.size := by
      obtain ⟨o, ho, _⟩ := id p
      exact Heap.lt_size ho
    refine ⟨_, _, us, fun it i h' => h'.IsTupleIter it a i ∧ h'.IsTuple a us.toArray, begins_tuple a us.toArray, pt, rv, hl, pl, fun A it hh ne => ?_, fun h' it e k => ⟨⟨_, e, rfl, rfl⟩, pt.at fun o q => k a o q⟩⟩
    have := Draws.tuple (prog := X.prog) (w := X.w) (A := A) hh it a ne us.toArray
    simpa using this
theorem pe_zipL {e e2 : Expr} {ta : TA} {p p2 pos pos2 : Pos} (hc : X.calm = true) (hgl : Gl X "list") (hml : X.mg "list" = none) (hg : Gl X "zip") (hm : X.mg "zip" = none) (ha : PA X [e, e2] ta)
    (hs : starEach [e, e2] X.env = (false, eval e X.env) :: starEach [e2] X.env := by rfl) (hpl : (backTo pos2 (starEach [e2] X.env)).any (·.1) = false := by rfl)
    (na : starEach [Expr.Call (.Name "zip" p2) [e, e2] [] pos2] X.env = (false, eval (Expr.Call (.Name "zip" p2) [e, e2] [] pos2) X.env) :: starEach [] X.env := by rfl) :
    PE X (.Call (.Name "list" p) [.Call (.Name "zip" p2) [e, e2] [] pos2] [] pos) (tCB (rZipL X.K) ta) := by
  refine ⟨fun pins s σ H Q I h => ?_⟩
  refine Call_ (ld_blt I hgl hml boot_list (PyProof.Rows.callWith_type1 (args_cons ?_ na) na))
  refine Call_ (ld_blt I hg hm PyProof.Rows.boot_zip (PyProof.Rows.callWith_type1 (thn (ha.run pos2 pins s σ H _ I h) fun us s1 ⟨vs, H1, I1, r1, q1⟩ => ?_) hs hpl))
  obtain ⟨a, b, xs, ys, ex, hqx, hqy, q1⟩ := q1
  subst ex
  cases r1 with
  | cons r rr =>
    cases rr with
    | cons r' rr =>
      cases rr
      cases r
      cases r'
      obtain ⟨o1, Hc1, us1, St1, B1, hc1, v1, z1, al, D1, S1⟩ := sq_draws I1 hqx
      obtain ⟨o2, Hc2, us2, St2, B2, hc2, v2, z2, bl, D2, S2⟩ := sq_draws I1 hqy
      refine zip_begins2 B1 B2 hc1 hc2 fun h' hz hTI hTO g1 g2 hsz hk => ?_
      refine args_nil ?_
      have hh := I1.ok.hd hc
      have lt5 : ∀ {c : Addr} {k : Nat}, c = s1.heap.objs.size + k → k < 5 → c < h'.objs.size := fun e l => by rw [hsz, e]; exact Nat.add_lt_add_left l _
      have lt0 : ∀ {c : Addr}, c < s1.heap.objs.size → c < h'.objs.size := fun e => by rw [hsz]; exact Nat.lt_of_lt_of_le e (Nat.le_add_right _ _)
      refine zl_call (s := { s1 with heap := h' }) (n1 := us1.length) (n2 := us2.length) hh (zip_sep2 (N := s1.heap.objs.size) (fp1 := [a]) (fp2 := [b]) (by simpa using al) (by simpa using bl)) (D1 _ s1.heap.objs.size hh (Nat.ne_of_lt al)) (D2 _ (s1.heap.objs.size + 1) hh (Nat.ne_of_lt (Nat.lt_succ_of_lt bl))) hz hTI hTO (S1 h' _ g1 hk) (S2 h' _ g2 hk)
        (fun c hc => ?_) (fun c hc => ?_) ?_ fun h2 tk acc c as hk2 hS hl hG hacc => ?_
      · rcases List.mem_cons.mp hc with e | e
        · exact lt5 (k := 0) e (by omega)
        · exact lt0 (by rw [List.mem_singleton.mp e]; exact al)
      · rcases List.mem_cons.mp hc with e | e
        · exact lt5 (k := 1) e (by omega)
        · exact lt0 (by rw [List.mem_singleton.mp e]; exact bl)
      · have := v1.length
        omega
      · have low : ∀ {b : Addr} {o : Obj} {k : Nat}, s1.heap.get? b = some o → b ≠ s1.heap.objs.size + k := fun e q => absurd (Heap.lt_size e) (by rw [q]; exact Nat.not_lt.mpr (Nat.le_add_right _ _))
        obtain ⟨H', k1, k2, k3, k4, k5, k6, J⟩ := zip_laid (tk := tk) (h' := h2) (p := h'.objs.size) (lo := h'.objs.size + 1) I1 v1 v2 z1 (fun b o q => hk2 b o (low q) (low q) (low (k := 0) q) (low q) (hk b o q)) (by rw [hsz]; exact Nat.le_add_right _ _) (Nat.lt_succ_self _) hS hl hG hacc
        exact ⟨.ref h'.objs.size, H', J, rfl, q1 H' _ as k1 k2 k3 k4 k5 k6⟩
end
end Z

/-! Z16: list(zip(u, v)), list(range(..)), tuple(range(..)). -/
namespace Z
open PySem PySem.Spec L2
open PyProof.Rows hiding St
theorem DRs.ofGet {K : PySem.W.Frag} {B : Hp} : ∀ {vs : List V} {ds : List D}, vs.length = ds.length → (∀ (j : Nat) (v : V) (d : D), vs[j]? = some v → ds[j]? = some d → DR K B v d) → DRs K B vs ds
  | [], [], _, _ => .nil
  | [], _ :: _, e, _ => by simp at e
  | _ :: _, [], e, _ => by simp at e
  | v :: vs, d :: ds, e, f => .cons (f 0 v d rfl rfl) (DRs.ofGet (by simpa using e) fun j v d h1 h2 => f (j + 1) v d (by simpa using h1) (by simpa using h2))
/-- the pairs of two rows -/
def zipD (xs ys : List D) : List D := (xs.zip ys).map fun q => PyData.tuple [q.1, q.2]
def gZip : D → D → Option NV
  | .list xs, .list ys => some (.val (.list (zipD xs ys)))
  | .list xs, .tuple ys => some (.val (.list (zipD xs ys)))
  | .tuple xs, .list ys => some (.val (.list (zipD xs ys)))
  | .tuple xs, .tuple ys => some (.val (.list (zipD xs ys)))
  | _, _ => none
section
variable {X : Cx} {cl : Str → Option Addr} {Ex : WX} {p p2 pos pos2 : Pos}
theorem rzip_ok {B H : Hp} {Q : VK} {a b : Addr} {vs ws : List V} {xs ys : List D} (ex : Xs B H) (h1 : SqL X.K H a vs ∨ SqT X.K H a vs) (h2 : SqL X.K H b ws ∨ SqT X.K H b ws) (r1 : DRs X.K B vs xs) (r2 : DRs X.K B ws ys) (h : NVok X.K B H Q (.val (.list (zipD xs ys)))) :
    rZipL X.K [.ref a, .ref b] H Q := by
  refine ⟨a, b, vs, ws, rfl, h1, h2, fun H' q ts k1 k2 k3 k4 k5 k6 => ?_⟩
  let B' : Hp := fun c => if c ∈ ts ∨ c = q then H' c else B c
  have bq : ∀ c, (c ∈ ts ∨ c = q) → B' c = H' c := fun c hc => if_pos hc
  have bn : ∀ c, ¬ (c ∈ ts ∨ c = q) → B' c = B c := fun c hc => if_neg hc
  have old : ∀ c, H c ≠ none → ¬ (c ∈ ts ∨ c = q) := fun c hc z => z.elim (fun z => hc (k3 c z)) fun z => hc (by rw [z]; exact k2)
  have xb : Xs B B' := fun c u e => by
    rw [bn c (old c (by rw [ex c u e]; exact fun z => nomatch z))]
    exact e
  refine h (.ref q) H' B' ⟨k1, xb, fun c u e => ?_, fun c e1 e2 => by rw [bn c (old c e2)]; exact e1⟩ (.lst (by rw [bq q (.inr rfl)]; exact k4) (DRs.ofGet ?_ fun j v d e1 e2 => ?_))
  · by_cases hc : c ∈ ts ∨ c = q
    · rw [bq c hc] at e
      exact e
    · rw [bn c hc] at e
      exact k1 c u (ex c u e)
  · unfold zipD
    rw [List.length_map, List.length_map, List.length_zip, k6.1, r1.length, r2.length]
  · rw [List.getElem?_map] at e1
    cases et : ts[j]? with
    | none => rw [et] at e1; cases e1
    | some t =>
      rw [et] at e1
      cases e1
      obtain ⟨x, y, f1, f2, f3⟩ := k6.2 j t et
      obtain ⟨dx, g1, g2⟩ := r1.getV f1
      obtain ⟨dy, g3, g4⟩ := r2.getV f2
      unfold zipD at e2
      have e0 : (xs.zip ys)[j]? = some (dx, dy) := List.getElem?_zip_eq_some.mpr ⟨g1, g3⟩
      rw [List.getElem?_map, e0] at e2
      cases e2
      refine .tup (SqT.of (H := B') (by rw [bq t (.inl (List.mem_of_getElem? et))]; exact f3)) (.cons (g2.mono xb) (.cons (g4.mono xb) .nil))
theorem se_zipL {e e2 : Expr} {ms : M (List SV)} (hc : X.calm = true) (hgl : Gl X "list") (hml : X.mg "list" = none) (hg : Gl X "zip") (hm : X.mg "zip" = none) (ha : SA X cl Ex [e, e2] ms)
    (hs : starEach [e, e2] X.env = (false, eval e X.env) :: starEach [e2] X.env := by rfl) (hpl : (backTo pos2 (starEach [e2] X.env)).any (·.1) = false := by rfl)
    (na : starEach [Expr.Call (.Name "zip" p2) [e, e2] [] pos2] X.env = (false, eval (Expr.Call (.Name "zip" p2) [e, e2] [] pos2) X.env) :: starEach [] X.env := by rfl) :
    SE X cl Ex (.Call (.Name "list" p) [.Call (.Name "zip" p2) [e, e2] [] pos2] [] pos) (mB (a2 gZip) ms) :=
  PE_imp (pe_zipL hc hgl hml hg hm ha hs hpl na) (mB_ok (a2_ok fun B H v w a b nv Q ex hv hw e h => by
    unfold gZip at e
    split at e
    · cases e
      obtain ⟨p, vs, rfl, h1, h2⟩ := hv.lst ex
      obtain ⟨q, ws, rfl, h3, h4⟩ := hw.lst ex
      exact rzip_ok ex (.inl (SqL.of h1)) (.inl (SqL.of h3)) h2 h4 h
    · cases e
      obtain ⟨p, vs, rfl, h1, h2⟩ := hv.lst ex
      obtain ⟨q, ws, rfl, h3, h4⟩ := hw.tup ex
      exact rzip_ok ex (.inl (SqL.of h1)) (.inr h3) h2 h4 h
    · cases e
      obtain ⟨p, vs, rfl, h1, h2⟩ := hv.tup ex
      obtain ⟨q, ws, rfl, h3, h4⟩ := hw.lst ex
      exact rzip_ok ex (.inr h1) (.inl (SqL.of h3)) h2 h4 h
    · cases e
      obtain ⟨p, vs, rfl, h1, h2⟩ := hv.tup ex
      obtain ⟨q, ws, rfl, h3, h4⟩ := hw.tup ex
      exact rzip_ok ex (.inr h1) (.inr h3) h2 h4 h
    · cases e))

/-! ### list and tuple of a range -/
def rgOk (i j : Int) : Bool := small62 i && (small62 j && decide ((j - i).toNat ≤ 2 ^ 24))
theorem rgOk_ok {i j : Int} (h : rgOk i j = true) : RgOk i j := by
  unfold rgOk at h
  obtain ⟨h1, h2⟩ := Bool.and_eq_true_iff.mp h
  obtain ⟨h2, h3⟩ := Bool.and_eq_true_iff.mp h2
  obtain ⟨a1, a2⟩ := small62_ok h1
  obtain ⟨a3, a4⟩ := small62_ok h2
  exact ⟨a1, a2, a3, a4, of_decide_eq_true h3⟩
def gListRg2 : D → D → Option NV
  | .int i, .int j => if rgOk i j then some (.lst (rgD i (j - i).toNat)) else none
  | _, _ => none
def gTupleRg2 : D → D → Option NV
  | .int i, .int j => if rgOk i j then some (.val (.tuple (rgD i (j - i).toNat))) else none
  | _, _ => none
def gListRg1 : D → Option NV
  | .int j => if rgOk 0 j then some (.lst (rgD 0 (j - 0).toNat)) else none
  | _ => none
def gTupleRg1 : D → Option NV
  | .int j => if rgOk 0 j then some (.val (.tuple (rgD 0 (j - 0).toNat))) else none
  | _ => none
theorem rgV_R {K : PySem.W.Frag} {B : Hp} (i j : Int) : DRs K B (rgV i j) (rgD i (j - i).toNat) := by
  unfold rgV rgD
  have : ∀ l : List Nat, DRs K B (l.map fun n => V.int (i + (n : Nat))) (l.map fun (n : Nat) => PyData.int (i + (n : Int))) := fun l => by
    induction l with
    | nil => exact .nil
    | cons n l ih => exact .cons (.int _) ih
  exact this _
variable {a b : Expr} {ma mb : M SV}
theorem se_listRg1 (hc : X.calm = true) (hgl : Gl X "list") (hml : X.mg "list" = none) (hg : Gl X "range") (hm : X.mg "range" = none) (ha : SE X cl Ex a ma)
    (n1 : starEach [a] X.env = (false, eval a X.env) :: starEach [] X.env := by rfl) (na : starEach [Expr.Call (.Name "range" p2) [a] [] pos2] X.env = (false, eval (Expr.Call (.Name "range" p2) [a] [] pos2) X.env) :: starEach [] X.env := by rfl) :
    SE X cl Ex (.Call (.Name "list" p) [.Call (.Name "range" p2) [a] [] pos2] [] pos) (m1 (on1 gListRg1) ma) :=
  PE_imp (pe_listRg hc hgl hml (prg_1 hg hm ha n1) na) (m1_ok (r := fun v H Q => ∃ n, v = .int n ∧ RgOk 0 n ∧ ∀ q, H q = none → Q (.ref q) (upd H q (.lst (rgV 0 n)))) (on1_ok fun B H v d nv Q ex hv e h => by
    unfold gListRg1 at e
    split at e
    · split at e
      · rename_i hr
        cases e
        cases hv.int
        exact ⟨_, rfl, rgOk_ok hr, fun q hq => h q _ hq (rgV_R _ _)⟩
      · cases e
    · cases e))
theorem se_listRg2 (hc : X.calm = true) (hgl : Gl X "list") (hml : X.mg "list" = none) (hg : Gl X "range") (hm : X.mg "range" = none) (ha : SE X cl Ex a ma) (hb : SE X cl Ex b mb)
    (n1 : starEach [a, b] X.env = (false, eval a X.env) :: starEach [b] X.env := by rfl) (nb : starEach [b] X.env = (false, eval b X.env) :: starEach [] X.env := by rfl) (hp : (backTo pos2 (starEach [b] X.env)).any (·.1) = false := by rfl)
    (na : starEach [Expr.Call (.Name "range" p2) [a, b] [] pos2] X.env = (false, eval (Expr.Call (.Name "range" p2) [a, b] [] pos2) X.env) :: starEach [] X.env := by rfl) :
    SE X cl Ex (.Call (.Name "list" p) [.Call (.Name "range" p2) [a, b] [] pos2] [] pos) (m2 (on2 gListRg2) ma mb) :=
  PE_imp (pe_listRg hc hgl hml (prg_2 hg hm ha hb n1 nb hp) na) (m2_ok (r := fun v w H Q => ∃ i j, v = .int i ∧ w = .int j ∧ RgOk i j ∧ ∀ q, H q = none → Q (.ref q) (upd H q (.lst (rgV i j)))) (on2_ok fun B H v w x y nv Q ex hv hw e h => by
    unfold gListRg2 at e
    split at e
    · split at e
      · rename_i hr
        cases e
        cases hv.int
        cases hw.int
        exact ⟨_, _, rfl, rfl, rgOk_ok hr, fun q hq => h q _ hq (rgV_R _ _)⟩
      · cases e
    · cases e))
theorem se_tupleRg1 (hc : X.calm = true) (hgl : Gl X "tuple") (hml : X.mg "tuple" = none) (hg : Gl X "range") (hm : X.mg "range" = none) (ha : SE X cl Ex a ma)
    (n1 : starEach [a] X.env = (false, eval a X.env) :: starEach [] X.env := by rfl) (na : starEach [Expr.Call (.Name "range" p2) [a] [] pos2] X.env = (false, eval (Expr.Call (.Name "range" p2) [a] [] pos2) X.env) :: starEach [] X.env := by rfl) :
    SE X cl Ex (.Call (.Name "tuple" p) [.Call (.Name "range" p2) [a] [] pos2] [] pos) (m1 (on1 gTupleRg1) ma) :=
  PE_imp (pe_tupRg hc hgl hml (prg_1 hg hm ha n1) na) (m1_ok (r := fun v H Q => ∃ n, v = .int n ∧ RgOk 0 n ∧ ∀ q, H q = none → Q (.ref q) (upd H q (.tup (rgV 0 n)))) (on1_ok fun B H v d nv Q ex hv e h => by
    unfold gTupleRg1 at e
    split at e
    · split at e
      · rename_i hr
        cases e
        cases hv.int
        exact ⟨_, rfl, rgOk_ok hr, fun q hq => h.tup ex hq (rgV_R _ _)⟩
      · cases e
    · cases e))
theorem se_tupleRg2 (hc : X.calm = true) (hgl : Gl X "tuple") (hml : X.mg "tuple" = none) (hg : Gl X "range") (hm : X.mg "range" = none) (ha : SE X cl Ex a ma) (hb : SE X cl Ex b mb)
    (n1 : starEach [a, b] X.env = (false, eval a X.env) :: starEach [b] X.env := by rfl) (nb : starEach [b] X.env = (false, eval b X.env) :: starEach [] X.env := by rfl) (hp : (backTo pos2 (starEach [b] X.env)).any (·.1) = false := by rfl)
    (na : starEach [Expr.Call (.Name "range" p2) [a, b] [] pos2] X.env = (false, eval (Expr.Call (.Name "range" p2) [a, b] [] pos2) X.env) :: starEach [] X.env := by rfl) :
    SE X cl Ex (.Call (.Name "tuple" p) [.Call (.Name "range" p2) [a, b] [] pos2] [] pos) (m2 (on2 gTupleRg2) ma mb) :=
  PE_imp (pe_tupRg hc hgl hml (prg_2 hg hm ha hb n1 nb hp) na) (m2_ok (r := fun v w H Q => ∃ i j, v = .int i ∧ w = .int j ∧ RgOk i j ∧ ∀ q, H q = none → Q (.ref q) (upd H q (.tup (rgV i j)))) (on2_ok fun B H v w x y nv Q ex hv hw e h => by
    unfold gTupleRg2 at e
    split at e
    · split at e
      · rename_i hr
        cases e
        cases hv.int
        cases hw.int
        exact ⟨_, _, rfl, rfl, rgOk_ok hr, fun q hq => h.tup ex hq (rgV_R _ _)⟩
      · cases e
    · cases e))
end
end Z

/-! Z17: constants that are tuples. -/
namespace Z
open PySem PySem.Spec L2
open PyProof.Rows hiding St
/-- a value of the written part, as data -/
def TK (K : PySem.W.Frag) (q : Addr) (ds : List D) : Prop := ∀ B, DR K B (.ref q) (.tuple ds)
def DK (K : PySem.W.Frag) (v : Option Value) (d : D) : Prop := ∃ u x, v = some u ∧ RelV x u ∧ ∀ B, DR K B x d
def atomIs : Option Value → D → Bool
  | some .none, .none => true
  | some (.bool b), .bool c => b == c
  | some (.int i _), .int j => i == j
  | some (.str x _), .str y => x == y
  | _, _ => false
theorem dk_atom {K : PySem.W.Frag} {v : Option Value} {d : D} (h : atomIs v d = true) : DK K v d := by
  unfold atomIs at h
  split at h
  · exact ⟨_, .non, rfl, rfl, fun _ => .non⟩
  · cases eq_of_beq h
    exact ⟨_, .bl _, rfl, rfl, fun _ => .bl _⟩
  · cases eq_of_beq h
    exact ⟨_, .int _, rfl, ⟨_, rfl⟩, fun _ => .int _⟩
  · cases eq_of_beq h
    exact ⟨_, .str _, rfl, ⟨_, rfl⟩, fun _ => .str _⟩
  · cases h
theorem dk_tup {K : PySem.W.Frag} {v : Option Value} {q : Addr} {ds : List D} (e : v = some (.ref q)) (h : TK K q ds) : DK K v (.tuple ds) := ⟨_, .ref q, e, rfl, h⟩
/-- the items from place i on -/
def DKs (K : PySem.W.Frag) (its : Array Value) (i : Nat) (ds : List D) : Prop := ∃ xs : List V, Vals xs (its.toList.drop i) ∧ ∀ B, DRs K B xs ds
theorem dk_nil {K : PySem.W.Frag} {its : Array Value} {n : Nat} (e : its.size = n) : DKs K its n [] := ⟨[], by rw [List.drop_eq_nil_of_le (by rw [Array.length_toList, e]; exact Nat.le_refl _)]; exact .nil, fun _ => .nil⟩
theorem dk_cons {K : PySem.W.Frag} {its : Array Value} {i : Nat} {d : D} {ds : List D} (h : DK K its[i]? d) (t : DKs K its (i + 1) ds) : DKs K its i (d :: ds) := by
  obtain ⟨u, x, e, r, f⟩ := h
  obtain ⟨xs, v, g⟩ := t
  have e' : its.toList[i]? = some u := by rw [Array.getElem?_toList]; exact e
  obtain ⟨hi, e2⟩ := List.getElem?_eq_some_iff.mp e'
  refine ⟨x :: xs, ?_, fun B => .cons (f B) (g B)⟩
  rw [List.drop_eq_getElem_cons hi, e2]
  exact .cons r v
theorem tk_mk {K : PySem.W.Frag} {q : Addr} {its : Array Value} {n : Nat} {od : Option Addr} {sl : Array (Option Value)} {ds : List D} (l : K.lookup q = some ⟨.type "tuple", od, .seq its n, sl⟩) (z : its.size ≤ sizeLine) (h : DKs K its 0 ds) : TK K q ds := fun B => by
  obtain ⟨xs, v, g⟩ := h
  exact .tup (.inr ⟨_, its, n, l, rfl, rfl, z, v⟩) (g B)
theorem gd_tup {K : PySem.W.Frag} {mg : Str → Option Value} {x : Str} {q : Addr} {ds : List D} (h : mg x = some (.ref q)) (t : TK K q ds) : GD K mg x (.tuple ds) := ⟨.ref q, _, h, rfl, t⟩
end Z

/-! Z18: plain lemmas for running terms. -/
namespace Z
open PySem PySem.Spec L2
open PyProof.Rows hiding St
theorem take_self (S : Sto) : S.take S.length = S := List.take_length
theorem take_set {S : Sto} {i : Nat} {o : Ob} : (S.set i o).take S.length = S.set i o := List.take_of_length_le (by rw [List.length_set]; exact Nat.le_refl _)
theorem len_set {S : Sto} {i : Nat} {o : Ob} : (S.set i o).length = S.length := List.length_set
theorem get_set {S : Sto} {i : Nat} {o u : Ob} (h : S[i]? = some u) : (S.set i o)[i]? = some o := by
  rw [List.getElem?_set_self']; rw [h]; rfl
theorem get_ne {S : Sto} {i j : Nat} {o u : Ob} (h : S[i]? = some u) (n : i ≠ j) : (S.set j o)[i]? = some u := by
  rw [List.getElem?_set_ne (Ne.symm n)]; exact h
theorem set_set {S : Sto} {i : Nat} {o u : Ob} : (S.set i o).set i u = S.set i u := List.set_set ..
theorem set_same {S : Sto} {i : Nat} {u : Ob} (h : S[i]? = some u) : S.set i u = S := by
  obtain ⟨hi, e⟩ := List.getElem?_eq_some_iff.mp h
  rw [← e]
  exact List.set_getElem_self hi
theorem get_lt {S : Sto} {i : Nat} {u : Ob} (h : S[i]? = some u) : i < S.length := (List.getElem?_eq_some_iff.mp h).1
theorem get_app {S T : Sto} {i : Nat} {u : Ob} (h : S[i]? = some u) : (S ++ T)[i]? = some u := by rw [List.getElem?_append_left (get_lt h)]; exact h
theorem set_app {S T : Sto} {i : Nat} {u o : Ob} (h : S[i]? = some u) : (S ++ T).set i o = S.set i o ++ T := List.set_append_left _ _ (get_lt h)
theorem get_end {S : Sto} {o : Ob} : (S ++ [o])[S.length]? = some o := by rw [List.getElem?_append_right (Nat.le_refl _)]; simp
theorem set_end {S : Sto} {o u : Ob} : (S ++ [o]).set S.length u = S ++ [u] := by rw [List.set_append_right _ _ (Nat.le_refl _)]; simp
theorem take_app {S T : Sto} : (S ++ T).take S.length = S := List.take_left
theorem cdiv {x j : Int} (h : 0 < j) (h' : j < 1073741824) : CDiv x j := ⟨h, h'⟩
theorem cdiv7 {x : Int} : CDiv x 7 := cdiv (by omega) (by omega)
theorem cmulL {x j : Int} (h : 0 ≤ x) (h' : x < 18446744073709551616) : CMul x j := .inl ⟨by omega, by omega⟩
theorem cpow18 : CPow 10 18 := ⟨by omega, by omega, by decide⟩
theorem cpow6 : CPow 10 6 := ⟨by omega, by omega, by decide⟩
theorem cpow20 : CPow 10 20 := ⟨by omega, by omega, by decide⟩
theorem szl : sizeLine = 16777216 := by rw [sizeLine_eq]
theorem sh_int (i : Int) : SeqAt.shaped (.int i) = true := rfl
theorem sh_bool (i : Bool) : SeqAt.shaped (.bool i) = true := rfl
theorem sh_none : SeqAt.shaped .none = true := rfl
theorem gEq_ii (i j : Int) : gEq (.int i) (.int j) = some (i == j) := rfl
theorem gNe_ii (i j : Int) : gNe (.int i) (.int j) = some (!(i == j)) := rfl
theorem gEq_bb (i j : Bool) : gEq (.bool i) (.bool j) = some (i == j) := rfl
theorem gNe_bb (i j : Bool) : gNe (.bool i) (.bool j) = some (!(i == j)) := rfl
theorem gLt_ii (i j : Int) : gOrd .Lt (.int i) (.int j) = some (decide (i < j)) := rfl
theorem gLe_ii (i j : Int) : gOrd .LtE (.int i) (.int j) = some (decide (i ≤ j)) := rfl
theorem gGt_ii (i j : Int) : gOrd .Gt (.int i) (.int j) = some (decide (j < i)) := rfl
theorem gGe_ii (i j : Int) : gOrd .GtE (.int i) (.int j) = some (decide (j ≤ i)) := rfl
theorem tru_bool (b : Bool) : truD (.bool b) = some b := rfl
theorem sub_sub_drop (l : List D) (k : Nat) : (l.drop k).take (l.length - k) = l.drop k := List.take_of_length_le (by rw [List.length_drop]; exact Nat.le_refl _)
end Z

/-! Z19: running terms by rewriting: each construct hands on to a named rest. -/
namespace Z
open PySem PySem.Spec L2
open PyProof.Rows hiding St
section
variable {S S1 S2 S3 : Sto} {E E1 : Vn} {x y z : SV} {xs : List SV} {n k i j : Nat} {ma mb mc m : M SV} {ms : M (List SV)} {a b : MS} {c c2 : M Bool} {d : D} {ds : List D} {nv : NV}
/-! names -/
def varK : Option (Option SV) → Sto → Out SV
  | some (some x), S => .ok x S
  | _, _ => .bad
theorem r_var : mVar i E S = varK E[i]? S := by
  unfold mVar varK
  cases E[i]? with | none => rfl | some o => cases o <;> rfl
theorem r_varK : varK (some (some x)) S = .ok x S := rfl
theorem r_C : mC d E S = .ok (.d d) S := rfl
theorem r_fn {f : Str} : mFn f E S = .ok (.f f) S := rfl
theorem r_yes : mYes E S = .ok true S := rfl
/-! reading -/
def rdK : Option Ob → Option D
  | some (.lst xs) => some (.list xs)
  | some (.frz x) => some x
  | _ => none
theorem rd_d : rd S (.d d) = some d := rfl
theorem rd_r : rd S (.r i) = rdK S[i]? := by
  unfold rd rdK
  dsimp only
  try (cases S[i]? with | none => rfl | some o => cases o <;> rfl)
theorem rdK_l {ds : List D} : rdK (some (.lst ds)) = some (.list ds) := rfl
theorem rdK_f : rdK (some (.frz d)) = some d := rfl
/-! one, two operands, arguments -/
def o1K (g : D → Option NV) : Option D → Option NV
  | some d => g d
  | none => none
def o2K (g : D → D → Option NV) : Option D → Option D → Option NV
  | some d, some e => g d e
  | _, _ => none
theorem r_on1 {g : D → Option NV} : on1 g S x = o1K g (rd S x) := by unfold on1; cases rd S x <;> rfl
theorem r_on2 {g : D → D → Option NV} : on2 g S x y = o2K g (rd S x) (rd S y) := by unfold on2; cases rd S x <;> cases rd S y <;> rfl
theorem o1_s {g : D → Option NV} : o1K g (some d) = g d := rfl
theorem o2_s {g : D → D → Option NV} {e : D} : o2K g (some d) (some e) = g d e := rfl
def oK (n : Nat) : Option NV → Sto → Out SV
  | some (.val d), S => .ok (.d d) (S.take n)
  | some (.lst ds), S => .ok (.r (S.take n).length) (S.take n ++ [.lst ds])
  | none, _ => .bad
theorem r_outN {o : Option NV} : outN n o S = oK n o S := by cases o with | none => rfl | some v => cases v <;> rfl
theorem oK_v : oK n (some (.val d)) S = .ok (.d d) (S.take n) := rfl
theorem oK_l {ds : List D} : oK n (some (.lst ds)) S = .ok (.r (S.take n).length) (S.take n ++ [.lst ds]) := rfl
def m1K (f : Sto → SV → Option NV) (n : Nat) : Out SV → Out SV
  | .ok x S => outN n (f S x) S
  | .exc x S => .exc x S
  | .bad => .bad
theorem r_m1 {f : Sto → SV → Option NV} : m1 f ma E S = m1K f S.length (ma E S) := by unfold m1 m1K; cases ma E S <;> rfl
theorem m1_o {f : Sto → SV → Option NV} : m1K f n (.ok x S) = outN n (f S x) S := rfl
def m2K (f : Sto → SV → SV → Option NV) (mb : M SV) (E : Vn) (n : Nat) : Out SV → Out SV
  | .ok x S => m1K (fun S y => f S x y) n (mb E S)
  | .exc x S => .exc x S
  | .bad => .bad
def m2L (f : Sto → SV → SV → Option NV) (x : SV) (n : Nat) : Out SV → Out SV
  | .ok y S => outN n (f S x y) S
  | .exc x S => .exc x S
  | .bad => .bad
theorem r_m2 {f : Sto → SV → SV → Option NV} : m2 f ma mb E S = m2K f mb E S.length (ma E S) := by
  unfold m2 m2K m1K
  cases ma E S with
  | ok x S1 => simp only [bind_ok]; cases mb E S1 <;> rfl
  | exc x S1 => rfl
  | bad => rfl
theorem m2_o {f : Sto → SV → SV → Option NV} : m2K f mb E n (.ok x S) = m2L f x n (mb E S) := by
  show m1K (fun S y => f S x y) n (mb E S) = _
  unfold m2L m1K
  cases mb E S <;> rfl
theorem m2_p {f : Sto → SV → SV → Option NV} : m2L f x n (.ok y S) = outN n (f S x y) S := rfl
def mBK (f : Sto → List SV → Option NV) (n : Nat) : Out (List SV) → Out SV
  | .ok xs S => outN n (f S xs) S
  | .exc x S => .exc x S
  | .bad => .bad
theorem r_mB {f : Sto → List SV → Option NV} : mB f ms E S = mBK f S.length (ms E S) := by unfold mB mBK; cases ms E S <;> rfl
theorem mB_o {f : Sto → List SV → Option NV} : mBK f n (.ok xs S) = outN n (f S xs) S := rfl
theorem r_nil : mNil E S = .ok [] S := rfl
def cnK (ms : M (List SV)) (E : Vn) : Out SV → Out (List SV)
  | .ok x S => (ms E S).bind fun xs S2 => .ok (x :: xs) S2
  | .exc x S => .exc x S
  | .bad => .bad
def cnL (x : SV) : Out (List SV) → Out (List SV)
  | .ok xs S => .ok (x :: xs) S
  | .exc x S => .exc x S
  | .bad => .bad
theorem r_cons : mCons m ms E S = cnK ms E (m E S) := by unfold mCons cnK; cases m E S <;> rfl
theorem cn_o : cnK ms E (.ok x S) = cnL x (ms E S) := by
  show Out.bind _ _ = _
  unfold cnL
  cases ms E S <;> rfl
theorem cn_p : cnL x (.ok xs S) = .ok (x :: xs) S := rfl
theorem a1_s {g : D → Option NV} : a1 g S [x] = o1K g (rd S x) := r_on1
theorem a2_s {g : D → D → Option NV} : a2 g S [x, y] = o2K g (rd S x) (rd S y) := r_on2
theorem pu_nil : pures [] = some [] := rfl
def puK (d : D) : Option (List D) → Option (List D)
  | some ds => some (d :: ds)
  | none => none
theorem pu_cons : pures (.d d :: xs) = puK d (pures xs) := by show Option.map _ _ = _; cases pures xs <;> rfl
theorem puK_s : puK d (some ds) = some (d :: ds) := rfl
def tpK : Option (List D) → Option NV
  | some ds => okLen ds.length (.val (.tuple ds))
  | none => none
def ltK : Option (List D) → Option NV
  | some ds => okLen ds.length (.lst ds)
  | none => none
theorem r_tup : fTup S xs = tpK (pures xs) := by unfold fTup; cases pures xs <;> rfl
theorem r_lst : fLst S xs = ltK (pures xs) := by unfold fLst; cases pures xs <;> rfl
theorem tp_s : tpK (some ds) = okLen ds.length (.val (.tuple ds)) := rfl
theorem lt_s : ltK (some ds) = okLen ds.length (.lst ds) := rfl
theorem okLen_if {nv : NV} : okLen n nv = if n ≤ 16777216 then some nv else none := by unfold okLen; rw [szl]
/-! freezing -/
def fzK (n : Nat) : Out SV → Out SV
  | .ok x S => fzO n x S
  | .exc x S => .exc x S
  | .bad => .bad
def fzR (n i : Nat) : Option Ob → Sto → Out SV
  | some (.lst xs), S => .ok (.d (.list xs)) ((S.set i (.frz (.list xs))).take n)
  | some (.frz d), S => .ok (.d d) (S.take n)
  | _, _ => .bad
theorem r_fz : mFz m E S = fzK S.length (m E S) := by unfold mFz fzK; cases m E S <;> rfl
theorem fz_d : fzK n (.ok (.d d) S) = .ok (.d d) (S.take n) := rfl
theorem fz_f {f : Str} : fzK n (.ok (.f f) S) = .ok (.f f) (S.take n) := rfl
theorem fz_s {ns : List Int} : fzK n (.ok (.s ns) S) = .ok (.s ns) (S.take n) := rfl
theorem fz_r : fzK n (.ok (.r i) S) = fzR n i S[i]? S := by
  show fzO n (.r i) S = _
  unfold fzO fzR
  dsimp only
  cases S[i]? with | none => rfl | some o => cases o <;> rfl
theorem fzR_l {ds : List D} : fzR n i (some (.lst ds)) S = .ok (.d (.list ds)) ((S.set i (.frz (.list ds))).take n) := rfl
theorem fzR_f : fzR n i (some (.frz d)) S = .ok (.d d) (S.take n) := rfl
/-! tests -/
def tK (n : Nat) : Out SV → Out Bool
  | .ok x S => match (rd S x).bind truD with
    | some b => .ok b (S.take n)
    | none => .bad
  | .exc x S => .exc x S
  | .bad => .bad
def tL (n : Nat) (S : Sto) : Option D → Out Bool
  | some d => match truD d with
    | some b => .ok b (S.take n)
    | none => .bad
  | none => .bad
theorem r_T : mT m E S = tK S.length (m E S) := by unfold mT tK; cases m E S <;> rfl
theorem t_o : tK n (.ok x S) = tL n S (rd S x) := by
  unfold tK tL
  dsimp only
  cases rd S x <;> rfl
theorem tL_b {b : Bool} : tL n S (some (.bool b)) = .ok b (S.take n) := rfl
def ntK : Out Bool → Out Bool
  | .ok b S => .ok (!b) S
  | .exc x S => .exc x S
  | .bad => .bad
theorem r_not : mNot c E S = ntK (c E S) := by unfold mNot ntK; cases c E S <;> rfl
theorem nt_o {b : Bool} : ntK (.ok b S) = .ok (!b) S := rfl
def anK (c : M Bool) (E : Vn) : Out Bool → Out Bool
  | .ok b S => if b then c E S else .ok false S
  | .exc x S => .exc x S
  | .bad => .bad
def orK (c : M Bool) (E : Vn) : Out Bool → Out Bool
  | .ok b S => if b then .ok true S else c E S
  | .exc x S => .exc x S
  | .bad => .bad
theorem r_and : mAnd c c2 E S = anK c2 E (c E S) := by unfold mAnd anK; cases c E S <;> rfl
theorem r_or : mOr c c2 E S = orK c2 E (c E S) := by unfold mOr orK; cases c E S <;> rfl
theorem an_t : anK c E (.ok true S) = c E S := rfl
theorem an_f : anK c E (.ok false S) = .ok false S := rfl
theorem or_t : orK c E (.ok true S) = .ok true S := rfl
theorem or_f : orK c E (.ok false S) = c E S := rfl
/-! statements -/
def sqK (b : MS) : Out Fl → Out Fl
  | .ok (.nx E) S => b E S
  | o => o
theorem r_seq : mSeq a b E S = sqK b (a E S) := by
  unfold mSeq sqK
  cases a E S with
  | ok fl S1 => cases fl <;> rfl
  | exc x S1 => rfl
  | bad => rfl
theorem sq_n : sqK b (.ok (.nx E) S) = b E S := rfl
theorem sq_r : sqK b (.ok (.rt x E) S) = .ok (.rt x E) S := rfl
theorem sq_b : sqK b (.ok (.bk E) S) = .ok (.bk E) S := rfl
theorem sq_c : sqK b (.ok (.ct E) S) = .ok (.ct E) S := rfl
def drK (E : Vn) (n : Nat) : Out SV → Out Fl
  | .ok _ S => .ok (.nx E) (S.take n)
  | .exc x S => .exc x S
  | .bad => .bad
theorem r_drop : mDrop m E S = drK E S.length (m E S) := by unfold mDrop drK; cases m E S <;> rfl
theorem dr_o : drK E n (.ok x S) = .ok (.nx E) (S.take n) := rfl
def rtK (E : Vn) : Out SV → Out Fl
  | .ok x S => .ok (.rt x E) S
  | .exc x S => .exc x S
  | .bad => .bad
theorem r_ret : mRet m E S = rtK E (m E S) := by unfold mRet rtK; cases m E S <;> rfl
theorem rt_o : rtK E (.ok x S) = .ok (.rt x E) S := rfl
theorem r_retN : mRetN E S = .ok (.rt (.d .none) E) S := rfl
def ifK (a b : MS) (E : Vn) : Out Bool → Out Fl
  | .ok k S => if k then a E S else b E S
  | .exc x S => .exc x S
  | .bad => .bad
theorem r_if : mIfS c a b E S = ifK a b E (c E S) := by unfold mIfS ifK; cases c E S <;> rfl
theorem if_o {k : Bool} : ifK a b E (.ok k S) = if k then a E S else b E S := rfl
theorem if_t' : ifK a b E (.ok true S) = a E S := rfl
theorem if_f' : ifK a b E (.ok false S) = b E S := rfl
theorem r_skip : mSkip E S = .ok (.nx E) S := rfl
theorem r_bk : mBk E S = .ok (.bk E) S := rfl
theorem r_ct : mCt E S = .ok (.ct E) S := rfl
def stK (i : Nat) (E : Vn) : Out SV → Out Fl
  | .ok x S => .ok (.nx (E.set i (some x))) S
  | .exc x S => .exc x S
  | .bad => .bad
theorem r_set : mSet i m E S = stK i E (m E S) := by unfold mSet stK; cases m E S <;> rfl
theorem st_o : stK i E (.ok x S) = .ok (.nx (E.set i (some x))) S := rfl
def asK (g : MG) (E : Vn) : Out SV → Out Fl
  | .ok x S => (g x E S).bind fun E1 S2 => .ok (.nx E1) S2
  | .exc x S => .exc x S
  | .bad => .bad
def asL : Out Vn → Out Fl
  | .ok E S => .ok (.nx E) S
  | .exc x S => .exc x S
  | .bad => .bad
theorem r_asg {g : MG} : mAsg g m E S = asK g E (m E S) := by unfold mAsg asK; cases m E S <;> rfl
theorem as_o {g : MG} : asK g E (.ok x S) = asL (g x E S) := by
  show Out.bind _ _ = _
  unfold asL
  cases g x E S <;> rfl
theorem as_p : asL (.ok E S) = .ok (.nx E) S := rfl
theorem g_nm : gNm i x E S = .ok (E.set i (some x)) S := rfl
theorem g_tp {gs : MGs} : gTp n gs (.d (.tuple ds)) E S = if ds.length = n then gs ds E S else .bad := rfl
def gcK (gs : MGs) (ds : List D) : Out Vn → Out Vn
  | .ok E S => gs ds E S
  | .exc x S => .exc x S
  | .bad => .bad
theorem g_nil : gsNil [] E S = .ok E S := rfl
theorem g_cons {g : MG} {gs : MGs} : gsCons g gs (d :: ds) E S = gcK gs ds (g (.d d) E S) := by show Out.bind _ _ = _; unfold gcK; cases g (.d d) E S <;> rfl
theorem gc_o {gs : MGs} : gcK gs ds (.ok E S) = gs ds E S := rfl
def prK (is : List Nat) (E : Vn) : Out (List SV) → Out Fl
  | .ok xs S => match setAll E is xs with
    | some E1 => .ok (.nx E1) S
    | none => .bad
  | .exc x S => .exc x S
  | .bad => .bad
def prL (S : Sto) : Option Vn → Out Fl
  | some E => .ok (.nx E) S
  | none => .bad
theorem r_par {is : List Nat} : mPar is ms E S = prK is E (ms E S) := by unfold mPar prK; cases ms E S <;> rfl
theorem pr_o {is : List Nat} : prK is E (.ok xs S) = prL S (setAll E is xs) := by
  unfold prK prL
  dsimp only
theorem pr_p : prL S (some E) = .ok (.nx E) S := rfl
theorem sA_nil : setAll E [] [] = some E := rfl
theorem sA_cons {is : List Nat} : setAll E (i :: is) (x :: xs) = setAll (E.set i (some x)) is xs := rfl
end
end Z

/-! Z20: running terms by rewriting: the rest of the constructs. -/
namespace Z
open PySem PySem.Spec L2
open PyProof.Rows hiding St
section
variable {S S1 S2 S3 : Sto} {E E1 : Vn} {x y z : SV} {xs : List SV} {n k i j N : Nat} {ma mb mc m mo mi : M SV} {ms : M (List SV)} {a b : MS} {c c2 : M Bool} {d : D} {ds : List D} {nv : NV} {φ : List SV → Sto → Out SV} {f cn : Str} {it : M (List D)} {g : MG} {body : MS}
/-! defs -/
def fnK (n : Nat) : Out Fl → Out SV
  | .ok (.nx _) S1 => .ok (.d .none) (S1.take n)
  | .ok (.rt x _) S1 => retO n x S1
  | .ok _ _ => .bad
  | .exc x S1 => .exc x (S1.take n)
  | .bad => .bad
theorem r_fnM {m : MS} : fnM N m xs S = fnK S.length (m (xs.map some ++ List.replicate (N - xs.length) none) S) := by
  unfold fnM fnK
  cases m (xs.map some ++ List.replicate (N - xs.length) none) S with
  | ok fl S1 => cases fl <;> rfl
  | exc x S1 => rfl
  | bad => rfl
theorem fn_n : fnK n (.ok (.nx E) S) = .ok (.d .none) (S.take n) := rfl
theorem fn_d : fnK n (.ok (.rt (.d d) E) S) = .ok (.d d) (S.take n) := rfl
def frK (n i : Nat) (S : Sto) : Option Ob → Out SV
  | some (.frz d) => .ok (.d d) (S.take n)
  | some (.lst xs) => .ok (.r n) (S.take n ++ [.lst xs])
  | some (.ins c fs) => .ok (.r n) (S.take n ++ [.ins c fs])
  | none => .bad
theorem fn_r : fnK n (.ok (.rt (.r i) E) S) = if i < n then .ok (.r i) (S.take n) else frK n i S S[i]? := by
  show retO n (.r i) S = _
  unfold retO frK
  dsimp only
  try (cases S[i]? with | none => rfl | some o => cases o <;> rfl)
theorem fr_l : frK n i S (some (.lst ds)) = .ok (.r n) (S.take n ++ [.lst ds]) := rfl
theorem fr_f : frK n i S (some (.frz d)) = .ok (.d d) (S.take n) := rfl
theorem fr_i {c : Str} {fs : List (Str × D)} : frK n i S (some (.ins c fs)) = .ok (.r n) (S.take n ++ [.ins c fs]) := rfl
def clK (n : Nat) (φ : List SV → Sto → Out SV) : Out (List SV) → Out SV
  | .ok xs S => if xs.length = n then φ xs S else .bad
  | .exc x S => .exc x S
  | .bad => .bad
theorem r_call : mCall n φ ms E S = clK n φ (ms E S) := by unfold mCall clK; cases ms E S <;> rfl
theorem cl_o : clK n φ (.ok xs S) = if xs.length = n then φ xs S else .bad := rfl
def cvK (n : Nat) (Φ : Str → Option (List SV → Sto → Out SV)) (ms : M (List SV)) (E : Vn) (S : Sto) : Option (Option SV) → Out SV
  | some (some (.f k)) => match Φ k with
    | some φ => mCall n φ ms E S
    | none => .bad
  | _ => .bad
theorem r_callV {Φ : Str → Option (List SV → Sto → Out SV)} : mCallV i n Φ ms E S = cvK n Φ ms E S E[i]? := by
  unfold mCallV cvK
  cases E[i]? with
  | none => rfl
  | some o => cases o with
    | none => rfl
    | some v => cases v <;> rfl
theorem cv_s : cvK n (tab1 f φ) ms E S (some (some (.f f))) = mCall n φ ms E S := by
  show (match tab1 f φ f with | some φ => mCall n φ ms E S | none => .bad) = _
  unfold tab1
  rw [if_pos rfl]
/-! instances -/
def inK (c : Str) (k : Nat) : Option Ob → Option (Nat × List (Str × D))
  | some (.ins c' fs) => if c' = c then some (k, fs) else none
  | _ => none
theorem in_r {c : Str} : insAt c S (.r k) = inK c k S[k]? := by
  unfold insAt inK
  dsimp only
  try (cases S[k]? with | none => rfl | some o => cases o <;> rfl)
theorem in_s {c : Str} {fs : List (Str × D)} : inK c k (some (.ins c fs)) = some (k, fs) := if_pos rfl
def fdK (f : Str) (S : Sto) (n : Nat) : Option (Nat × List (Str × D)) → Out SV
  | some (_, fs) => match fs.lookup f with
    | some d => .ok (.d d) (S.take n)
    | none => .bad
  | none => .bad
def fdL (S : Sto) (n : Nat) : Option D → Out SV
  | some d => .ok (.d d) (S.take n)
  | none => .bad
def fdO (c f : Str) (n : Nat) : Out SV → Out SV
  | .ok o S => fdK f S n (insAt c S o)
  | .exc x S => .exc x S
  | .bad => .bad
theorem r_fld {c : Str} : mFld c f mo E S = fdO c f S.length (mo E S) := by
  unfold mFld fdO
  cases mo E S with
  | ok o S1 =>
    simp only [bind_ok]
    unfold fdK
    cases insAt c S1 o with | none => rfl | some p => rfl
  | exc x S1 => rfl
  | bad => rfl
theorem fd_o {c : Str} : fdO c f n (.ok x S) = fdK f S n (insAt c S x) := rfl
theorem fd_p {fs : List (Str × D)} : fdK f S n (some (k, fs)) = fdL S n (fs.lookup f) := by
  unfold fdK fdL
  dsimp only
  try (cases fs.lookup f <;> rfl)
theorem fd_q : fdL S n (some d) = .ok (.d d) (S.take n) := rfl
def sfO (c f : Str) (mo : M SV) (E : Vn) (n : Nat) : Out SV → Out Fl
  | .ok x S1 => (mo E S1).bind fun o S2 => match x with
    | .d d => match insAt c S2 o with
      | some (k, fs) => if fs.length < 1000 then .ok (.nx E) ((S2.set k (.ins c (putD f d fs))).take n) else .bad
      | none => .bad
    | _ => .bad
  | .exc x S => .exc x S
  | .bad => .bad
def sfK (c f : Str) (E : Vn) (d : D) (n : Nat) : Out SV → Out Fl
  | .ok o S2 => match insAt c S2 o with
      | some (k, fs) => if fs.length < 1000 then .ok (.nx E) ((S2.set k (.ins c (putD f d fs))).take n) else .bad
      | none => .bad
  | .exc x S => .exc x S
  | .bad => .bad
def sfL (c f : Str) (E : Vn) (d : D) (n : Nat) (S : Sto) : Option (Nat × List (Str × D)) → Out Fl
  | some (k, fs) => if fs.length < 1000 then .ok (.nx E) ((S.set k (.ins c (putD f d fs))).take n) else .bad
  | none => .bad
theorem r_setF {c : Str} : mSetF c f mo m E S = sfO c f mo E S.length (m E S) := by unfold mSetF sfO; cases m E S <;> rfl
theorem sf_o {c : Str} : sfO c f mo E n (.ok (.d d) S) = sfK c f E d n (mo E S) := by
  show Out.bind _ _ = _
  unfold sfK
  cases mo E S <;> rfl
theorem sf_p {c : Str} : sfK c f E d n (.ok x S) = sfL c f E d n S (insAt c S x) := by
  unfold sfK sfL
  dsimp only
  try (cases insAt c S x <;> rfl)
theorem sf_q {c : Str} {fs : List (Str × D)} : sfL c f E d n S (some (k, fs)) = if fs.length < 1000 then .ok (.nx E) ((S.set k (.ins c (putD f d fs))).take n) else .bad := rfl
def mtO (c m : Str) (n : Nat) (φ : List SV → Sto → Out SV) (ms : M (List SV)) (E : Vn) : Out SV → Out SV
  | .ok o S1 => match insAt c S1 o with
    | some (k, fs) => if fs.lookup m = none then (ms E S1).bind fun xs S2 => if xs.length + 1 = n then φ (.r k :: xs) S2 else .bad else .bad
    | none => .bad
  | .exc x S => .exc x S
  | .bad => .bad
def mtK (m : Str) (n : Nat) (φ : List SV → Sto → Out SV) (ms : M (List SV)) (E : Vn) (S : Sto) : Option (Nat × List (Str × D)) → Out SV
  | some (k, fs) => if fs.lookup m = none then (ms E S).bind fun xs S2 => if xs.length + 1 = n then φ (.r k :: xs) S2 else .bad else .bad
  | none => .bad
def mtL (n k : Nat) (φ : List SV → Sto → Out SV) : Out (List SV) → Out SV
  | .ok xs S => if xs.length + 1 = n then φ (.r k :: xs) S else .bad
  | .exc x S => .exc x S
  | .bad => .bad
theorem r_meth {c m : Str} : mMeth c m n φ mo ms E S = mtO c m n φ ms E (mo E S) := by unfold mMeth mtO; cases mo E S <;> rfl
theorem mt_o {c m : Str} : mtO c m n φ ms E (.ok x S) = mtK m n φ ms E S (insAt c S x) := by
  unfold mtO mtK
  dsimp only
  try (cases insAt c S x <;> rfl)
theorem mt_p {m : Str} {fs : List (Str × D)} (h : fs.lookup m = none) : mtK m n φ ms E S (some (k, fs)) = mtL n k φ (ms E S) := by
  show (if _ then _ else _) = _
  rw [if_pos h]
  unfold mtL
  cases ms E S <;> rfl
theorem mt_q : mtL n k φ (.ok xs S) = if xs.length + 1 = n then φ (.r k :: xs) S else .bad := rfl
def mkO (c : Str) (n : Nat) (φ : List SV → Sto → Out SV) : Out (List SV) → Out SV
  | .ok xs S1 => if xs.length + 1 = n then (φ (.r S1.length :: xs) (S1 ++ [.ins c []])).bind fun v S2 => match v with
    | .d .none => .ok (.r S1.length) S2
    | _ => .bad
    else .bad
  | .exc x S => .exc x S
  | .bad => .bad
def mkK (k : Nat) : Out SV → Out SV
  | .ok (.d .none) S => .ok (.r k) S
  | .ok _ _ => .bad
  | .exc x S => .exc x S
  | .bad => .bad
theorem r_make {c : Str} : mMake c n φ ms E S = mkO c n φ (ms E S) := by unfold mMake mkO; cases ms E S <;> rfl
theorem mk_o {c : Str} (h : xs.length + 1 = n) : mkO c n φ (.ok xs S) = mkK S.length (φ (.r S.length :: xs) (S ++ [.ins c []])) := by
  show (if _ then _ else _) = _
  rw [if_pos h]
  unfold mkK
  cases φ (.r S.length :: xs) (S ++ [.ins c []]) with
  | ok v S2 =>
    cases v with
    | d d => cases d <;> rfl
    | _ => rfl
  | exc x S2 => rfl
  | bad => rfl
theorem mk_p : mkK k (.ok (.d .none) S) = .ok (.r k) S := rfl
/-! list methods -/
def mmO (f : Sto → List D → List SV → Option (List D × D)) (n : Nat) (ms : M (List SV)) (E : Vn) : Out SV → Out SV
  | .ok o S1 => match o with
    | .r k => match S1[k]? with
      | some (.lst _) => (ms E S1).bind fun xs S2 => mtF f n k xs S2
      | _ => .bad
    | _ => .bad
  | .exc x S => .exc x S
  | .bad => .bad
def mmK (f : Sto → List D → List SV → Option (List D × D)) (n k : Nat) (ms : M (List SV)) (E : Vn) (S : Sto) : Option Ob → Out SV
  | some (.lst _) => (ms E S).bind fun xs S2 => mtF f n k xs S2
  | _ => .bad
def mmL (f : Sto → List D → List SV → Option (List D × D)) (n k : Nat) : Out (List SV) → Out SV
  | .ok xs S => mtF f n k xs S
  | .exc x S => .exc x S
  | .bad => .bad
def mmP (f : Sto → List D → List SV → Option (List D × D)) (n k : Nat) (xs : List SV) (S : Sto) : Option Ob → Out SV
  | some (.lst ys) => match f S ys xs with
    | some (zs, d) => .ok (.d d) ((S.set k (.lst zs)).take n)
    | none => .bad
  | _ => .bad
def mmQ (n k : Nat) (S : Sto) : Option (List D × D) → Out SV
  | some (zs, d) => .ok (.d d) ((S.set k (.lst zs)).take n)
  | none => .bad
theorem r_mt {f : Sto → List D → List SV → Option (List D × D)} : mMt f mo ms E S = mmO f S.length ms E (mo E S) := by unfold mMt mmO; cases mo E S <;> rfl
theorem mm_o {f : Sto → List D → List SV → Option (List D × D)} : mmO f n ms E (.ok (.r k) S) = mmK f n k ms E S S[k]? := by
  unfold mmO mmK
  dsimp only
  try (cases S[k]? with | none => rfl | some o => cases o <;> rfl)
theorem mm_p {f : Sto → List D → List SV → Option (List D × D)} {ys : List D} : mmK f n k ms E S (some (.lst ys)) = mmL f n k (ms E S) := by
  show Out.bind _ _ = _
  unfold mmL
  cases ms E S <;> rfl
theorem mm_q {f : Sto → List D → List SV → Option (List D × D)} : mmL f n k (.ok xs S) = mmP f n k xs S S[k]? := by
  show mtF f n k xs S = _
  unfold mtF mmP
  cases S[k]? with | none => rfl | some o => cases o <;> rfl
theorem mm_r {f : Sto → List D → List SV → Option (List D × D)} {ys : List D} : mmP f n k xs S (some (.lst ys)) = mmQ n k S (f S ys xs) := by
  unfold mmP mmQ
  dsimp only
  try (cases f S ys xs <;> rfl)
theorem mm_s {zs : List D} : mmQ n k S (some (zs, d)) = .ok (.d d) ((S.set k (.lst zs)).take n) := rfl
theorem f_app {ys : List D} : fApp S ys [.d d] = if ys.length < 16777216 then some (ys ++ [d], .none) else none := by unfold fApp; rw [szl]
def exK (ys : List D) : Option D → Option (List D × D)
  | some (.list zs) => if ys.length + zs.length ≤ 16777216 then some (ys ++ zs, .none) else none
  | _ => none
theorem f_ext {ys : List D} : fExt S ys [x] = exK ys (rd S x) := by
  unfold fExt exK
  dsimp only
  cases rd S x with | none => rfl | some d => cases d <;> first | rfl | rw [szl]
theorem ex_s {ys zs : List D} : exK ys (some (.list zs)) = if ys.length + zs.length ≤ 16777216 then some (ys ++ zs, .none) else none := rfl
def poK (ys : List D) : Option D → Option (List D × D)
  | some (.int i) => if -(2 ^ 63) ≤ i ∧ i < 2 ^ 63 then (seqIndex? i ys.length).bind fun k => (ys[k]?).map fun d => (ys.eraseIdx k, d) else none
  | _ => none
theorem f_popAt {ys : List D} : fPopAt S ys [x] = poK ys (rd S x) := by
  unfold fPopAt poK
  dsimp only
  try (cases rd S x with | none => rfl | some d => cases d <;> rfl)
/-! items set -/
def siO (mo mi : M SV) (E : Vn) (n : Nat) : Out SV → Out Fl
  | .ok x S1 => (mo E S1).bind fun o S2 => (mi E S2).bind fun i S3 => match x with
    | .d d => match setL S3 o i d with
      | some S4 => .ok (.nx E) (S4.take n)
      | none => .bad
    | _ => .bad
  | .exc x S => .exc x S
  | .bad => .bad
def siK (mi : M SV) (E : Vn) (n : Nat) (d : D) : Out SV → Out Fl
  | .ok o S2 => (mi E S2).bind fun i S3 => match setL S3 o i d with
      | some S4 => .ok (.nx E) (S4.take n)
      | none => .bad
  | .exc x S => .exc x S
  | .bad => .bad
def siL (E : Vn) (n : Nat) (d : D) (o : SV) : Out SV → Out Fl
  | .ok i S3 => match setL S3 o i d with
      | some S4 => .ok (.nx E) (S4.take n)
      | none => .bad
  | .exc x S => .exc x S
  | .bad => .bad
def siP (E : Vn) (n : Nat) : Option Sto → Out Fl
  | some S4 => .ok (.nx E) (S4.take n)
  | none => .bad
theorem r_setIx : mSetIx mo mi m E S = siO mo mi E S.length (m E S) := by unfold mSetIx siO; cases m E S <;> rfl
theorem si_o : siO mo mi E n (.ok (.d d) S) = siK mi E n d (mo E S) := by
  show Out.bind _ _ = _
  unfold siK
  cases mo E S <;> rfl
theorem si_p : siK mi E n d (.ok x S) = siL E n d x (mi E S) := by
  show Out.bind _ _ = _
  unfold siL
  cases mi E S <;> rfl
theorem si_q : siL E n d x (.ok y S) = siP E n (setL S x y d) := by
  unfold siL siP
  dsimp only
  try (cases setL S x y d <;> rfl)
theorem si_r : siP E n (some S) = .ok (.nx E) (S.take n) := rfl
def slR (S : Sto) (k : Nat) (d : D) : Option D → Option Ob → Option Sto
  | some (.int j), some (.lst xs) => (ixN xs.length j).map fun n => S.set k (.lst (xs.set n d))
  | _, _ => none
theorem r_setL : setL S (.r k) y d = slR S k d (rd S y) S[k]? := by
  unfold setL slR
  dsimp only
  cases S[k]? with
  | none => cases rd S y with | none => rfl | some e => cases e <;> rfl
  | some o => cases o <;> (cases rd S y with | none => rfl | some e => cases e <;> rfl)
theorem sl_s {j : Int} {ds : List D} : slR S k d (some (.int j)) (some (.lst ds)) = (ixN ds.length j).map fun n => S.set k (.lst (ds.set n d)) := rfl
def aiO (op : Operator) (mi m : M SV) (E : Vn) (n : Nat) : Out SV → Out Fl
  | .ok o S1 => (mi E S1).bind fun i S2 => match getL S2 o i with
    | some p => (m E S2).bind fun y S3 => match (rd S3 y).bind fun q => gIp op p q with
      | some z => match setL S3 o i z with
        | some S4 => .ok (.nx E) (S4.take n)
        | none => .bad
      | none => .bad
    | none => .bad
  | .exc x S => .exc x S
  | .bad => .bad
def aiK (op : Operator) (m : M SV) (E : Vn) (n : Nat) (o : SV) : Out SV → Out Fl
  | .ok i S2 => match getL S2 o i with
    | some p => (m E S2).bind fun y S3 => match (rd S3 y).bind fun q => gIp op p q with
      | some z => match setL S3 o i z with
        | some S4 => .ok (.nx E) (S4.take n)
        | none => .bad
      | none => .bad
    | none => .bad
  | .exc x S => .exc x S
  | .bad => .bad
def aiL (op : Operator) (m : M SV) (E : Vn) (n : Nat) (o i : SV) (S2 : Sto) : Option D → Out Fl
  | some p => (m E S2).bind fun y S3 => match (rd S3 y).bind fun q => gIp op p q with
      | some z => match setL S3 o i z with
        | some S4 => .ok (.nx E) (S4.take n)
        | none => .bad
      | none => .bad
  | none => .bad
def aiP (op : Operator) (E : Vn) (n : Nat) (o i : SV) (p : D) : Out SV → Out Fl
  | .ok y S3 => match (rd S3 y).bind fun q => gIp op p q with
      | some z => match setL S3 o i z with
        | some S4 => .ok (.nx E) (S4.take n)
        | none => .bad
      | none => .bad
  | .exc x S => .exc x S
  | .bad => .bad
def aiQ (E : Vn) (n : Nat) (o i : SV) (S : Sto) : Option D → Out Fl
  | some z => siP E n (setL S o i z)
  | none => .bad
def ipK (op : Operator) (p : D) : Option D → Option D
  | some q => gIp op p q
  | none => none
theorem r_augIx {op : Operator} : mAugIx op mo mi m E S = aiO op mi m E S.length (mo E S) := by unfold mAugIx aiO; cases mo E S <;> rfl
theorem ai_o {op : Operator} : aiO op mi m E n (.ok x S) = aiK op m E n x (mi E S) := by
  show Out.bind _ _ = _
  unfold aiK
  cases mi E S <;> rfl
theorem ai_p {op : Operator} : aiK op m E n x (.ok y S) = aiL op m E n x y S (getL S x y) := by
  unfold aiK aiL
  dsimp only
  try (cases getL S x y <;> rfl)
theorem ai_q {op : Operator} : aiL op m E n x y S (some d) = aiP op E n x y d (m E S) := by
  show Out.bind _ _ = _
  unfold aiP
  cases m E S <;> rfl
theorem ai_r {op : Operator} : aiP op E n x y d (.ok z S) = aiQ E n x y S (ipK op d (rd S z)) := by
  unfold aiP aiQ ipK siP
  dsimp only
  cases rd S z with
  | none => rfl
  | some q =>
    dsimp only [Option.bind_some]
    try (cases gIp op d q with
    | none => rfl
    | some e => dsimp only; cases setL S x y e <;> rfl)
theorem ai_s : aiQ E n x y S (some d) = siP E n (setL S x y d) := rfl
def glR : Option D → Option Ob → Option D
  | some (.int j), some (.lst xs) => atI xs j
  | _, _ => none
theorem r_getL : getL S (.r k) y = glR (rd S y) S[k]? := by
  unfold getL glR
  dsimp only
  cases S[k]? with
  | none => cases rd S y with | none => rfl | some e => cases e <;> rfl
  | some o => cases o <;> (cases rd S y with | none => rfl | some e => cases e <;> rfl)
theorem gl_s {j : Int} {ds : List D} : glR (some (.int j)) (some (.lst ds)) = atI ds j := rfl
theorem ip_add {i j : Int} : ipK .Add (.int i) (some (.int j)) = some (.int (i + j)) := rfl
theorem ip_sub {i j : Int} : ipK .Sub (.int i) (some (.int j)) = some (.int (i - j)) := rfl
def agK (i : Nat) (op : Operator) (m : M SV) (E : Vn) (S : Sto) : Option (Option SV) → Out Fl
  | some (some x) => (m E S).bind fun y S1 => match (rd S x).bind fun p => (rd S1 y).bind fun q => gIp op p q with
    | some z => .ok (.nx (E.set i (some (.d z)))) (S1.take S.length)
    | none => .bad
  | _ => .bad
def agL (i : Nat) (op : Operator) (E : Vn) (n : Nat) : Option D → Out SV → Out Fl
  | some p, .ok y S1 => match ipK op p (rd S1 y) with
    | some z => .ok (.nx (E.set i (some (.d z)))) (S1.take n)
    | none => .bad
  | _, .exc x S => .exc x S
  | _, _ => .bad
def agP (i : Nat) (E : Vn) (n : Nat) (S : Sto) : Option D → Out Fl
  | some z => .ok (.nx (E.set i (some (.d z)))) (S.take n)
  | none => .bad
theorem r_aug {op : Operator} : mAug i op m E S = agK i op m E S E[i]? := by
  unfold mAug agK
  cases E[i]? with | none => rfl | some o => cases o <;> rfl
theorem ag_o {op : Operator} : agK i op m E S (some (some x)) = agL i op E S.length (rd S x) (m E S) := by
  unfold agK agL ipK
  dsimp only
  cases m E S with
  | ok y S1 =>
    cases rd S x with
    | none => rfl
    | some p =>
      simp only [bind_ok, Option.bind_some]
      cases rd S1 y with
      | none => rfl
      | some q => dsimp only [Option.bind_some]; try (cases gIp op p q <;> rfl)
  | exc e S1 => cases rd S x <;> rfl
  | bad => cases rd S x <;> rfl
theorem ag_p {op : Operator} : agL i op E n (some d) (.ok y S) = agP i E n S (ipK op d (rd S y)) := by
  unfold agL agP
  dsimp only
  try (cases ipK op d (rd S y) <;> rfl)
theorem ag_q : agP i E n S (some d) = .ok (.nx (E.set i (some (.d d)))) (S.take n) := rfl
end
end Z

/-! Z21: running terms: choices, slices, loops. -/
namespace Z
open PySem PySem.Spec L2
open PyProof.Rows hiding St
section
variable {S S1 S2 S3 T : Sto} {E E1 Ew : Vn} {x y z : SV} {xs : List SV} {n k i j N : Nat} {ma mb mc m mo mi elt : M SV} {ms : M (List SV)} {a b : MS} {c c2 cond : M Bool} {d e : D} {ds : List D} {nv : NV} {it : M (List D)} {g : MG} {body : MS}
def iK (ma mb : M SV) (E : Vn) : Out Bool → Out SV
  | .ok k S => if k then ma E S else mb E S
  | .exc x S => .exc x S
  | .bad => .bad
theorem r_ifE : mIf c ma mb E S = iK ma mb E (c E S) := by unfold mIf iK; cases c E S <;> rfl
theorem i_t : iK ma mb E (.ok true S) = ma E S := rfl
theorem i_f : iK ma mb E (.ok false S) = mb E S := rfl
theorem i_o {k : Bool} : iK ma mb E (.ok k S) = if k then ma E S else mb E S := rfl
def avK (mb : M SV) (E : Vn) (n : Nat) : Out SV → Out SV
  | .ok x S1 => match (rd S1 x).bind truD with
    | some true => (mb E S1).bind fun y S2 => fzO n y S2
    | some false => .ok x S1
    | none => .bad
  | .exc x S => .exc x S
  | .bad => .bad
def avL (mb : M SV) (E : Vn) (n : Nat) (x : SV) (S : Sto) : Option D → Out SV
  | some d => match truD d with
    | some true => fzK n (mb E S)
    | some false => .ok x S
    | none => .bad
  | none => .bad
theorem r_andV : mAndV ma mb E S = avK mb E S.length (ma E S) := by
  unfold mAndV avK
  cases ma E S <;> rfl
theorem av_o : avK mb E n (.ok x S) = avL mb E n x S (rd S x) := by
  unfold avK avL fzK
  dsimp only
  cases rd S x with
  | none => rfl
  | some d =>
    dsimp only [Option.bind_some]
    cases truD d with
    | none => rfl
    | some b => cases b with
      | true => dsimp only; cases mb E S <;> rfl
      | false => rfl
theorem av_t : avL mb E n x S (some (.bool true)) = fzK n (mb E S) := rfl
theorem av_f : avL mb E n x S (some (.bool false)) = .ok x S := rfl
/-! chains -/
def chA (g g' : D → D → Option Bool) (mb mc : M SV) (E : Vn) (n : Nat) : Out SV → Out SV
  | .ok x S1 => (mb E S1).bind fun y S2 => match onB g S2 x y with
    | some true => (mc E S2).bind fun z S3 => match onB g' S3 y z with
      | some k => outB n k S3
      | none => .bad
    | some false => outB n false S2
    | none => .bad
  | .exc x S => .exc x S
  | .bad => .bad
def chB (g g' : D → D → Option Bool) (mc : M SV) (E : Vn) (n : Nat) (x : SV) : Out SV → Out SV
  | .ok y S2 => match onB g S2 x y with
    | some true => (mc E S2).bind fun z S3 => match onB g' S3 y z with
      | some k => outB n k S3
      | none => .bad
    | some false => outB n false S2
    | none => .bad
  | .exc x S => .exc x S
  | .bad => .bad
def oBK (g : D → D → Option Bool) : Option D → Option D → Option Bool
  | some a, some b => g a b
  | _, _ => none
theorem onB_K {g : D → D → Option Bool} : onB g S x y = oBK g (rd S x) (rd S y) := by unfold onB oBK; cases rd S x <;> cases rd S y <;> rfl
theorem oBK_s {g : D → D → Option Bool} : oBK g (some d) (some e) = g d e := rfl
def chC (g' : D → D → Option Bool) (mc : M SV) (E : Vn) (n : Nat) (y : SV) (S : Sto) : Option Bool → Out SV
  | some true => (mc E S).bind fun z S3 => match onB g' S3 y z with
      | some k => outB n k S3
      | none => .bad
  | some false => outB n false S
  | none => .bad
def chD (g' : D → D → Option Bool) (n : Nat) (y : SV) : Out SV → Out SV
  | .ok z S3 => match onB g' S3 y z with
      | some k => outB n k S3
      | none => .bad
  | .exc x S => .exc x S
  | .bad => .bad
def chE (n : Nat) (S : Sto) : Option Bool → Out SV
  | some k => .ok (.d (.bool k)) (S.take n)
  | none => .bad
theorem r_chain {g g' : D → D → Option Bool} : mChain g g' ma mb mc E S = chA g g' mb mc E S.length (ma E S) := by unfold mChain chA; cases ma E S <;> rfl
theorem ch_a {g g' : D → D → Option Bool} : chA g g' mb mc E n (.ok x S) = chB g g' mc E n x (mb E S) := by
  show Out.bind _ _ = _
  unfold chB
  cases mb E S <;> rfl
theorem ch_b {g g' : D → D → Option Bool} : chB g g' mc E n x (.ok y S) = chC g' mc E n y S (onB g S x y) := by
  unfold chB chC
  dsimp only
theorem ch_t {g' : D → D → Option Bool} : chC g' mc E n y S (some true) = chD g' n y (mc E S) := by
  show Out.bind _ _ = _
  unfold chD
  cases mc E S <;> rfl
theorem ch_f {g' : D → D → Option Bool} : chC g' mc E n y S (some false) = .ok (.d (.bool false)) (S.take n) := rfl
theorem ch_d {g' : D → D → Option Bool} : chD g' n y (.ok z S) = chE n S (onB g' S y z) := by
  unfold chD chE outB
  dsimp only
theorem ch_e {k : Bool} : chE n S (some k) = .ok (.d (.bool k)) (S.take n) := rfl
def c3A (g g' g2 : D → D → Option Bool) (mb mc md : M SV) (E : Vn) (n : Nat) : Out SV → Out SV
  | .ok x S1 => (mb E S1).bind fun y S2 => match onB g S2 x y with
    | some true => (mc E S2).bind fun z S3 => chC g2 md E n z S3 (onB g' S3 y z)
    | some false => outB n false S2
    | none => .bad
  | .exc x S => .exc x S
  | .bad => .bad
def c3C (g' g2 : D → D → Option Bool) (mc md : M SV) (E : Vn) (n : Nat) (y : SV) (S : Sto) : Option Bool → Out SV
  | some true => (mc E S).bind fun z S3 => chC g2 md E n z S3 (onB g' S3 y z)
  | some false => .ok (.d (.bool false)) (S.take n)
  | none => .bad
def c3B (g g' g2 : D → D → Option Bool) (mc md : M SV) (E : Vn) (n : Nat) (x : SV) : Out SV → Out SV
  | .ok y S2 => c3C g' g2 mc md E n y S2 (onB g S2 x y)
  | .exc x S => .exc x S
  | .bad => .bad
def c3D (g' g2 : D → D → Option Bool) (md : M SV) (E : Vn) (n : Nat) (y : SV) : Out SV → Out SV
  | .ok z S3 => chC g2 md E n z S3 (onB g' S3 y z)
  | .exc x S => .exc x S
  | .bad => .bad
theorem r_chain3 {g g' g2 : D → D → Option Bool} {md : M SV} : mChain3 g g' g2 ma mb mc md E S = c3A g g' g2 mb mc md E S.length (ma E S) := by
  unfold mChain3 c3A
  cases ma E S with
  | ok x S1 =>
    simp only [bind_ok]
    cases mb E S1 with
    | ok y S2 =>
      simp only [bind_ok]
      cases onB g S2 x y with
      | none => rfl
      | some b =>
        cases b with
        | false => rfl
        | true =>
          dsimp only
          cases mc E S2 with
          | ok z S3 =>
            simp only [bind_ok]
            unfold chC
            cases onB g' S3 y z with
            | none => rfl
            | some b => cases b <;> rfl
          | exc x S3 => rfl
          | bad => rfl
    | exc x S2 => rfl
    | bad => rfl
  | exc x S1 => rfl
  | bad => rfl
theorem c3_a {g g' g2 : D → D → Option Bool} {md : M SV} : c3A g g' g2 mb mc md E n (.ok x S) = c3B g g' g2 mc md E n x (mb E S) := by
  show Out.bind _ _ = _
  unfold c3B c3C
  cases mb E S <;> rfl
theorem c3_b {g g' g2 : D → D → Option Bool} {md : M SV} : c3B g g' g2 mc md E n x (.ok y S) = c3C g' g2 mc md E n y S (onB g S x y) := rfl
theorem c3_t {g' g2 : D → D → Option Bool} {md : M SV} : c3C g' g2 mc md E n y S (some true) = c3D g' g2 md E n y (mc E S) := by
  show Out.bind _ _ = _
  unfold c3D
  cases mc E S <;> rfl
theorem c3_f {g' g2 : D → D → Option Bool} {md : M SV} : c3C g' g2 mc md E n y S (some false) = .ok (.d (.bool false)) (S.take n) := rfl
theorem c3_d {g' g2 : D → D → Option Bool} {md : M SV} : c3D g' g2 md E n y (.ok z S) = chC g2 md E n z S (onB g' S y z) := rfl
/-! slices -/
def slA (lo hi : Option (M SV)) (E : Vn) (n : Nat) : Out SV → Out SV
  | .ok x S1 => (mPart lo E S1).bind fun l S2 => (mPart hi E S2).bind fun h S3 => outN n (gSlS S3 x l h) S3
  | .exc x S => .exc x S
  | .bad => .bad
def slB (hi : Option (M SV)) (E : Vn) (n : Nat) (x : SV) : Out (Option Int) → Out SV
  | .ok l S2 => (mPart hi E S2).bind fun h S3 => outN n (gSlS S3 x l h) S3
  | .exc x S => .exc x S
  | .bad => .bad
def slC (n : Nat) (x : SV) (l : Option Int) : Out (Option Int) → Out SV
  | .ok h S3 => outN n (gSlS S3 x l h) S3
  | .exc x S => .exc x S
  | .bad => .bad
def ptK : Out SV → Out (Option Int)
  | .ok x S => match intOf S x with
    | some i => .ok (some i) S
    | none => .bad
  | .exc x S => .exc x S
  | .bad => .bad
def ptL (S : Sto) : Option D → Out (Option Int)
  | some (.int i) => .ok (some i) S
  | _ => .bad
theorem r_sl {lo hi : Option (M SV)} : mSl lo hi ma E S = slA lo hi E S.length (ma E S) := by unfold mSl slA; cases ma E S <;> rfl
theorem sl_a {lo hi : Option (M SV)} : slA lo hi E n (.ok x S) = slB hi E n x (mPart lo E S) := by
  show Out.bind _ _ = _
  unfold slB
  cases mPart lo E S <;> rfl
theorem sl_b {hi : Option (M SV)} {l : Option Int} : slB hi E n x (.ok l S) = slC n x l (mPart hi E S) := by
  show Out.bind _ _ = _
  unfold slC
  cases mPart hi E S <;> rfl
theorem sl_c {l h : Option Int} : slC n x l (.ok h S) = outN n (gSlS S x l h) S := rfl
theorem pt_n : mPart none E S = .ok none S := rfl
theorem pt_s : mPart (some m) E S = ptK (m E S) := by
  show Out.bind _ _ = _
  unfold ptK
  cases m E S <;> rfl
theorem pt_o : ptK (.ok x S) = ptL S (rd S x) := by
  unfold ptK ptL intOf
  dsimp only
  cases rd S x with | none => rfl | some d => cases d <;> rfl
theorem pt_i {v : Int} : ptL S (some (.int v)) = .ok (some v) S := rfl
theorem gs_d {l h : Option Int} : gSlS S (.d d) l h = gSl l h d := rfl
theorem gs_r {l h : Option Int} : gSlS S (.r k) l h = o1K (gSl l h) (rdK S[k]?) := by
  show on1 _ _ _ = _
  rw [r_on1, rd_r]
theorem gs_s {l h : Option Int} {ns : List Int} : gSlS S (.s ns) l h = some (.lst (((ns.drop (HT.sIx ns.length 0 l)).take (HT.sIx ns.length ns.length h - HT.sIx ns.length 0 l)).map PyData.int)) := rfl
theorem gSl_l {l h : Option Int} : gSl l h (.list ds) = some (.lst ((ds.drop (HT.sIx ds.length 0 l)).take (HT.sIx ds.length ds.length h - HT.sIx ds.length 0 l))) := rfl
theorem gSl_t {l h : Option Int} : gSl l h (.tuple ds) = some (.val (.tuple ((ds.drop (HT.sIx ds.length 0 l)).take (HT.sIx ds.length ds.length h - HT.sIx ds.length 0 l)))) := rfl
/-! what loops go along -/
def itK : Out SV → Out (List D)
  | .ok (.d (.list ds)) S => .ok ds S
  | .ok (.d (.tuple ds)) S => .ok ds S
  | .ok _ _ => .bad
  | .exc x S => .exc x S
  | .bad => .bad
theorem r_it : mIt m E S = itK (mFz m E S) := by
  unfold mIt itK
  cases mFz m E S with
  | ok x S1 =>
    cases x with
    | d d => cases d <;> rfl
    | _ => rfl
  | exc x S1 => rfl
  | bad => rfl
theorem it_l : itK (.ok (.d (.list ds)) S) = .ok ds S := rfl
theorem it_t : itK (.ok (.d (.tuple ds)) S) = .ok ds S := rfl
def enK : Out SV → Out (List D)
  | .ok (.d (.list ds)) S => .ok (enD 0 ds) S
  | .ok (.d (.tuple ds)) S => .ok (enD 0 ds) S
  | .ok _ _ => .bad
  | .exc x S => .exc x S
  | .bad => .bad
theorem r_enum : mEnum m E S = enK (mFz m E S) := by
  unfold mEnum enK
  cases mFz m E S with
  | ok x S1 =>
    cases x with
    | d d => cases d <;> rfl
    | _ => rfl
  | exc x S1 => rfl
  | bad => rfl
theorem en_l : enK (.ok (.d (.list ds)) S) = .ok (enD 0 ds) S := rfl
theorem en_t : enK (.ok (.d (.tuple ds)) S) = .ok (enD 0 ds) S := rfl
def r1K (n : Nat) : Out (List SV) → Out (List D)
  | .ok xs S => match intsS S xs with
    | some [j] => if small62 j then .ok (rgD 0 j.toNat) (S.take n) else .bad
    | _ => .bad
  | .exc x S => .exc x S
  | .bad => .bad
def r2K (n : Nat) : Out (List SV) → Out (List D)
  | .ok xs S => match intsS S xs with
    | some [i, j] => if small62 i && small62 j then .ok (rgD i (j - i).toNat) (S.take n) else .bad
    | _ => .bad
  | .exc x S => .exc x S
  | .bad => .bad
theorem r_rng1 : mRng1 ms E S = r1K S.length (ms E S) := by unfold mRng1 r1K; cases ms E S <;> rfl
theorem r_rng2 : mRng2 ms E S = r2K S.length (ms E S) := by unfold mRng2 r2K; cases ms E S <;> rfl
theorem r1_o {v : Int} : r1K n (.ok [.d (.int v)] S) = if small62 v then .ok (rgD 0 v.toNat) (S.take n) else .bad := rfl
theorem r2_o {u v : Int} : r2K n (.ok [.d (.int u), .d (.int v)] S) = if small62 u && small62 v then .ok (rgD u (v - u).toNat) (S.take n) else .bad := rfl
theorem sm62 {v : Int} (h : -1000000000 ≤ v) (h' : v ≤ 1000000000) : small62 v = true := by
  unfold small62
  rw [decide_eq_true (by omega), decide_eq_true (by omega)]
  rfl
/-! for -/
def foK (g : MG) (body : MS) (E : Vn) : Out (List D) → Out Fl
  | .ok ds S => forL g body ds E S
  | .exc x S => .exc x S
  | .bad => .bad
theorem r_for : mFor it g body E S = foK g body E (it E S) := by unfold mFor foK; cases it E S <;> rfl
theorem fo_o : foK g body E (.ok ds S) = forL g body ds E S := rfl
def bdK (body : MS) : Out Vn → Out Fl
  | .ok E S => body E S
  | .exc x S => .exc x S
  | .bad => .bad
theorem bd_o : bdK body (.ok E S) = body E S := rfl
def flK (g : MG) (body : MS) (ds : List D) : Out Fl → Out Fl
  | .ok (.nx E) S => forL g body ds E S
  | .ok (.ct E) S => forL g body ds E S
  | .ok (.bk E) S => .ok (.nx E) S
  | .ok (.rt x E) S => .ok (.rt x E) S
  | .exc x S => .exc x S
  | .bad => .bad
theorem for_nil : forL g body [] E S = .ok (.nx E) S := rfl
theorem for_cons : forL g body (d :: ds) E S = flK g body ds (bdK body (g (.d d) E S)) := by
  show Out.bind _ _ = _
  unfold bdK
  cases g (.d d) E S with
  | ok E1 S1 =>
    simp only [bind_ok]
    unfold flK
    cases body E1 S1 with
    | ok fl S2 => cases fl <;> rfl
    | exc x S2 => rfl
    | bad => rfl
  | exc x S1 => rfl
  | bad => rfl
theorem fl_n : flK g body ds (.ok (.nx E) S) = forL g body ds E S := rfl
theorem fl_c : flK g body ds (.ok (.ct E) S) = forL g body ds E S := rfl
theorem fl_b : flK g body ds (.ok (.bk E) S) = .ok (.nx E) S := rfl
theorem fl_r : flK g body ds (.ok (.rt x E) S) = .ok (.rt x E) S := rfl
/-- a loop that runs to its end -/
theorem for_run {α : Type} (I : α → Vn → Sto → Prop) (step : α → D → α) : ∀ (ds : List D) (s : α) (E : Vn) (S : Sto),
    (∀ (s : α) (d : D) (E : Vn) (S : Sto), d ∈ ds → I s E S → ∃ E' S', (bdK body (g (.d d) E S) = .ok (.nx E') S' ∨ bdK body (g (.d d) E S) = .ok (.ct E') S') ∧ I (step s d) E' S') → I s E S →
    ∃ E' S', forL g body ds E S = .ok (.nx E') S' ∧ I (ds.foldl step s) E' S'
  | [], s, E, S, _, h => ⟨E, S, rfl, h⟩
  | d :: ds, s, E, S, f, h => by
    obtain ⟨E1, S1, h1, h2⟩ := f s d E S (by simp) h
    obtain ⟨E2, S2, h3, h4⟩ := for_run I step ds (step s d) E1 S1 (fun s' d' E' S' hd => f s' d' E' S' (by simp [hd])) h2
    refine ⟨E2, S2, ?_, h4⟩
    rw [for_cons]
    rcases h1 with h1 | h1
    · rw [h1, fl_n]; exact h3
    · rw [h1, fl_c]; exact h3
/-! while -/
def wbK (c : M Bool) (body : MS) (n : Nat) : Out Fl → Out Fl
  | .ok (.nx E) S => whF c body n E S
  | .ok (.ct E) S => whF c body n E S
  | .ok (.bk E) S => .ok (.nx E) S
  | .ok (.rt x E) S => .ok (.rt x E) S
  | .exc x S => .exc x S
  | .bad => .bad
def wcK (c : M Bool) (body : MS) (n : Nat) (E : Vn) : Out Bool → Out Fl
  | .ok b S => if b then wbK c body n (body E S) else .ok (.nx E) S
  | .exc x S => .exc x S
  | .bad => .bad
theorem wh_s : whF c body (n + 1) E S = wcK c body n E (c E S) := by
  show Out.bind _ _ = _
  unfold wcK
  cases c E S with
  | ok b S1 =>
    simp only [bind_ok]
    cases b with
    | true =>
      simp only [if_true]
      unfold wbK
      cases body E S1 with
      | ok fl S2 => cases fl <;> rfl
      | exc x S2 => rfl
      | bad => rfl
    | false => rfl
  | exc x S1 => rfl
  | bad => rfl
theorem wc_t : wcK c body n E (.ok true S) = wbK c body n (body E S) := rfl
theorem wc_f : wcK c body n E (.ok false S) = .ok (.nx E) S := rfl
theorem wb_n : wbK c body n (.ok (.nx E) S) = whF c body n E S := rfl
theorem wb_r : wbK c body n (.ok (.rt x E) S) = .ok (.rt x E) S := rfl
/-- a loop that runs to its end, by a measure -/
theorem wh_run {α : Type} (I : α → Vn → Sto → Prop) (mu : α → Nat) (step : α → α) (fin : α → Bool)
    (h : ∀ (s : α) (E : Vn) (S : Sto), I s E S → ∃ S1, c E S = .ok (!fin s) S1 ∧ if fin s = true then I s E S1 else mu (step s) < mu s ∧ ∃ E' S', body E S1 = .ok (.nx E') S' ∧ I (step s) E' S') :
    ∀ (n : Nat) (s : α) (E : Vn) (S : Sto), mu s < n → I s E S → ∃ s' E' S', whF c body n E S = .ok (.nx E') S' ∧ I s' E' S' ∧ fin s' = true ∧ ∃ k, s' = Nat.repeat step k s ∧ ∀ j, j < k → fin (Nat.repeat step j s) = false
  | 0, s, E, S, hm, _ => by omega
  | n + 1, s, E, S, hm, hI => by
    obtain ⟨S1, h1, h2⟩ := h s E S hI
    cases q : fin s with
    | true =>
      rw [if_pos q] at h2
      refine ⟨s, E, S1, ?_, h2, q, 0, rfl, fun j hj => by omega⟩
      rw [wh_s, h1, q]
      rfl
    | false =>
      rw [if_neg (by rw [q]; exact Bool.false_ne_true)] at h2
      obtain ⟨hmu, E', S', h3, h4⟩ := h2
      obtain ⟨s', E2, S2, h5, h6, h7, k, h8, h9⟩ := wh_run I mu step fin h n (step s) E' S' (by omega) h4
      have rep : ∀ j, Nat.repeat step j (step s) = Nat.repeat step (j + 1) s := fun j => by
        induction j with
        | zero => rfl
        | succ j ih => exact congrArg step ih
      refine ⟨s', E2, S2, ?_, h6, h7, k + 1, by rw [h8, rep], fun j hj => ?_⟩
      · rw [wh_s, h1, q]
        show wbK c body n (body E S1) = _
        rw [h3]
        exact h5
      · cases j with
        | zero => exact q
        | succ j => rw [← rep]; exact h9 j (by omega)
/-! comprehensions -/
def lcC (g : MG) (cond : M Bool) (elt : M SV) (k : Nat) (Ew : Vn) (ds : List D) (y : D) (S : Sto) : Option Ob → Out Unit
  | some (.lst acc) => if acc.length < 16777216 then lcL g cond elt k Ew ds (S.set k (.lst (acc ++ [y]))) else .bad
  | _ => .bad
def lcB (g : MG) (cond : M Bool) (elt : M SV) (k : Nat) (Ew : Vn) (ds : List D) : Out SV → Out Unit
  | .ok (.d y) S => lcC g cond elt k Ew ds y S S[k]?
  | _ => .bad
def lcA (g : MG) (cond : M Bool) (elt : M SV) (k : Nat) (Ew : Vn) (ds : List D) (E1 : Vn) : Out Bool → Out Unit
  | .ok b S => if b then lcB g cond elt k Ew ds (elt E1 S) else lcL g cond elt k Ew ds S
  | _ => .bad
def lcZ (g : MG) (cond : M Bool) (elt : M SV) (k : Nat) (Ew : Vn) (ds : List D) : Out Vn → Out Unit
  | .ok E1 S => lcA g cond elt k Ew ds E1 (cond E1 S)
  | _ => .bad
theorem lc_nil : lcL g cond elt k Ew [] S = .ok () S := rfl
theorem lc_cons : lcL g cond elt k Ew (d :: ds) S = lcZ g cond elt k Ew ds (g (.d d) Ew S) := by
  show Out.bind _ _ = _
  unfold lcZ
  cases g (.d d) Ew S with
  | ok E1 S1 =>
    simp only [noX, bind_ok]
    unfold lcA
    cases cond E1 S1 with
    | ok b S2 =>
      simp only [bind_ok]
      cases b with
      | true =>
        simp only [if_true]
        unfold lcB
        cases elt E1 S2 with
        | ok x S3 =>
          simp only [bind_ok]
          cases x with
          | d y =>
            simp only
            unfold lcC
            rw [← szl]
            try (cases S3[k]? with | none => rfl | some o => cases o <;> rfl)
          | _ => rfl
        | exc x S3 => rfl
        | bad => rfl
      | false => rfl
    | exc x S2 => rfl
    | bad => rfl
  | exc x S1 => rfl
  | bad => rfl
theorem lc_z : lcZ g cond elt k Ew ds (.ok E1 S) = lcA g cond elt k Ew ds E1 (cond E1 S) := rfl
theorem lc_t : lcA g cond elt k Ew ds E1 (.ok true S) = lcB g cond elt k Ew ds (elt E1 S) := rfl
theorem lc_f : lcA g cond elt k Ew ds E1 (.ok false S) = lcL g cond elt k Ew ds S := rfl
theorem lc_b : lcB g cond elt k Ew ds (.ok (.d d) S) = lcC g cond elt k Ew ds d S S[k]? := rfl
theorem lc_c {acc : List D} : lcC g cond elt k Ew ds d S (some (.lst acc)) = if acc.length < 16777216 then lcL g cond elt k Ew ds (S.set k (.lst (acc ++ [d]))) else .bad := rfl
def lmK (g : MG) (cond : M Bool) (elt : M SV) (Ew : Vn) : Out (List D) → Out SV
  | .ok ds S => match lcL g cond elt S.length Ew ds (S ++ [.lst []]) with
    | .ok _ S2 => .ok (.r S.length) S2
    | .exc x S2 => .exc x S2
    | .bad => .bad
  | .exc x S => .exc x S
  | .bad => .bad
def lmL (k : Nat) : Out Unit → Out SV
  | .ok _ S2 => .ok (.r k) S2
  | .exc x S2 => .exc x S2
  | .bad => .bad
theorem r_lc {vs : List Nat} : mLc it g cond elt vs E S = lmK g cond elt (wipeE E vs) (it E S) := by
  unfold mLc lmK
  cases it E S with
  | ok ds S1 =>
    simp only [bind_ok]
    cases lcL g cond elt S1.length (wipeE E vs) ds (S1 ++ [.lst []]) <;> rfl
  | exc x S1 => rfl
  | bad => rfl
theorem lm_o : lmK g cond elt Ew (.ok ds S) = lmL S.length (lcL g cond elt S.length Ew ds (S ++ [.lst []])) := by
  show (match lcL g cond elt S.length Ew ds (S ++ [.lst []]) with | .ok _ S2 => _ | .exc x S2 => _ | .bad => _) = _
  unfold lmL
  cases lcL g cond elt S.length Ew ds (S ++ [.lst []]) <;> rfl
theorem lm_p {u : Unit} : lmL k (.ok u S) = .ok (.r k) S := rfl
/-- one turn: what it adds, and the state behind it -/
structure LcTurn (g : MG) (cond : M Bool) (elt : M SV) (Ew : Vn) (d : D) (T T' : Sto) (o : Option D) : Prop where
  run : ∀ acc, ∃ E1 T1 T2, g (.d d) Ew (T ++ [.lst acc]) = .ok E1 (T1 ++ [.lst acc]) ∧ cond E1 (T1 ++ [.lst acc]) = .ok o.isSome (T2 ++ [.lst acc]) ∧
    (∀ y, o = some y → elt E1 (T2 ++ [.lst acc]) = .ok (.d y) (T' ++ [.lst acc])) ∧ (o = none → T2 = T')
def lcFold {α : Type} (step : α → D → α × Option D) : α → List D → α × List D
  | s, [] => (s, [])
  | s, d :: ds => ((lcFold step (step s d).1 ds).1, (step s d).2.toList ++ (lcFold step (step s d).1 ds).2)
theorem lc_run {α : Type} (I : α → Prop) (T : α → Sto) (k : Nat) (hk : ∀ s, I s → (T s).length = k) (step : α → D → α × Option D) : ∀ (ds : List D) (s : α) (acc : List D),
    (∀ (s : α) (d : D), d ∈ ds → I s → I (step s d).1 ∧ LcTurn g cond elt Ew d (T s) (T (step s d).1) (step s d).2) → I s → acc.length + ds.length ≤ 16777216 →
    lcL g cond elt k Ew ds (T s ++ [.lst acc]) = .ok () (T (lcFold step s ds).1 ++ [.lst (acc ++ (lcFold step s ds).2)]) ∧ I (lcFold step s ds).1
  | [], s, acc, _, hI, _ => by
    refine ⟨?_, hI⟩
    show Out.ok () _ = Out.ok () _
    rw [show (lcFold step s []).2 = [] from rfl, List.append_nil]
    rfl
  | d :: ds, s, acc, f, hI, hl => by
    obtain ⟨hI', tn⟩ := f s d (by simp) hI
    obtain ⟨E1, T1, T2, h1, h2, h3, h4⟩ := tn.run acc
    rw [lc_cons, h1, lc_z, h2]
    rw [List.length_cons] at hl
    cases q : (step s d).2 with
    | none =>
      rw [show (none : Option D).isSome = false from rfl, lc_f, h4 q]
      obtain ⟨r1, r2⟩ := lc_run I T k hk step ds (step s d).1 acc (fun s' d' hd => f s' d' (by simp [hd])) hI' (by omega)
      refine ⟨?_, r2⟩
      rw [r1]
      simp [lcFold, q]
    | some y =>
      rw [show (some y).isSome = true from rfl, lc_t, h3 y q, lc_b]
      rw [show k = (T (step s d).1).length from (hk _ hI').symm, get_end, lc_c, if_pos (by omega), set_end, hk _ hI']
      obtain ⟨r1, r2⟩ := lc_run I T k hk step ds (step s d).1 (acc ++ [y]) (fun s' d' hd => f s' d' (by simp [hd])) hI' (by rw [List.length_append]; simp; omega)
      refine ⟨?_, r2⟩
      rw [r1]
      simp [lcFold, q]
end
end Z

/-! Z22: running terms: operators on data. -/
namespace Z
open PySem PySem.Spec L2
open PyProof.Rows hiding St
section
variable {i j : Int} {xs ys : List D} {b : Bool} {d e : D} {s t : Str}
theorem gAdd_ii : gAdd (.int i) (.int j) = some (.val (.int (i + j))) := rfl
theorem gAdd_ll : gAdd (.list xs) (.list ys) = okLen (xs.length + ys.length) (.lst (xs ++ ys)) := rfl
theorem gAdd_tt : gAdd (.tuple xs) (.tuple ys) = okLen (xs.length + ys.length) (.val (.tuple (xs ++ ys))) := rfl
theorem gSub_ii : Z.gSub (.int i) (.int j) = some (.val (.int (i - j))) := rfl
theorem gMul_ii (h : CMul i j) : gMul (.int i) (.int j) = some (.val (.int (i * j))) := if_pos h
theorem gDiv_ii (h : CDiv i j) : gDiv (.int i) (.int j) = some (.val (.int (i / j))) := if_pos h
theorem gMod_ii (h : 0 < j) : gMod (.int i) (.int j) = some (.val (.int (i % j))) := if_pos h
theorem gPow_ii (h : CPow i j) : gPow (.int i) (.int j) = some (.val (.int (i ^ j.toNat))) := if_pos h
theorem gNeg_i : gNeg (.int i) = some (.val (.int (-i))) := rfl
theorem bV_s {g : D → D → Option Bool} : bV g d e = (g d e).map fun b => .val (.bool b) := rfl
theorem gIx_l : gIx (.list xs) (.int i) = (atI xs i).map .val := rfl
theorem gIx_t : gIx (.tuple xs) (.int i) = (atI xs i).map .val := rfl
theorem gLen_l : gLen (.list xs) = some (.val (.int xs.length)) := rfl
theorem gLen_t : gLen (.tuple xs) = some (.val (.int xs.length)) := rfl
theorem gTup_l : gTupOf (.list xs) = some (.val (.tuple xs)) := rfl
theorem gTup_t : gTupOf (.tuple xs) = some (.val (.tuple xs)) := rfl
theorem gLst_l : gLstOf (.list xs) = some (.lst xs) := rfl
theorem gLst_t : gLstOf (.tuple xs) = some (.lst xs) := rfl
theorem gInt_i : gInt (.int i) = some (.val (.int i)) := rfl
theorem gInt_b : gInt (.bool b) = some (.val (.int (if b then 1 else 0))) := rfl
theorem gAbs_i : gAbs (.int i) = some (.val (.int (if i < 0 then -i else i))) := rfl
theorem gNot_b : gNot (.bool b) = some (.val (.bool (!b))) := rfl
theorem gZip_tt : gZip (.tuple xs) (.tuple ys) = some (.val (.list (zipD xs ys))) := rfl
theorem gZip_ll : gZip (.list xs) (.list ys) = some (.val (.list (zipD xs ys))) := rfl
theorem gAll_l : gAll (.list xs) = (blsOf xs).map fun bs => .val (.bool (bs.all id)) := rfl
theorem gAny_l : gAny (.list xs) = (blsOf xs).map fun bs => .val (.bool (bs.any id)) := rfl
theorem gSum_l : gSum (.list xs) = (intsOf xs).map fun ns => .val (.int ns.sum) := rfl
theorem gLRg1 : gListRg1 (.int j) = if rgOk 0 j then some (.lst (rgD 0 (j - 0).toNat)) else none := rfl
theorem atI_0 {α : Type} {a : α} {l : List α} : atI (a :: l) 0 = some a := by
  unfold atI ixN
  rw [if_pos (by omega), if_pos (by rw [List.length_cons]; omega)]
  rfl
theorem atI_n {α : Type} {l : List α} {i : Int} (h : 0 ≤ i) (h' : i < l.length) : atI l i = l[i.toNat]? := by
  unfold atI ixN
  rw [if_pos h, if_pos h']
  rfl
theorem atI_1 {α : Type} {a b : α} {l : List α} : atI (a :: b :: l) 1 = some b := by rw [atI_n (by omega) (by rw [List.length_cons, List.length_cons]; omega)]; rfl
theorem atI_2 {α : Type} {a b c : α} {l : List α} : atI (a :: b :: c :: l) 2 = some c := by rw [atI_n (by omega) (by rw [List.length_cons, List.length_cons, List.length_cons]; omega)]; rfl
theorem atI_3 {α : Type} {a b c d : α} {l : List α} : atI (a :: b :: c :: d :: l) 3 = some d := by rw [atI_n (by omega) (by rw [List.length_cons, List.length_cons, List.length_cons, List.length_cons]; omega)]; rfl
theorem gS0 {S T : Sto} {n : Nat} (h : S.length = n) : (S ++ T)[n]? = T[0]? := by rw [← h, List.getElem?_append_right (Nat.le_refl _), Nat.sub_self]
theorem gSj {S T : Sto} {n j : Nat} (h : S.length = n) : (S ++ T)[n + j]? = T[j]? := by rw [← h, List.getElem?_append_right (Nat.le_add_right _ _), Nat.add_sub_cancel_left]
theorem tS0 {S T : Sto} {n : Nat} (h : S.length = n) : (S ++ T).take n = S := by rw [← h]; exact List.take_left
theorem tSj {S T : Sto} {n j : Nat} (h : S.length = n) : (S ++ T).take (n + j) = S ++ T.take j := by rw [← h]; exact List.take_length_add_append _
theorem sS0 {S T : Sto} {n : Nat} {o : Ob} (h : S.length = n) : (S ++ T).set n o = S ++ T.set 0 o := by rw [← h, List.set_append_right _ _ (Nat.le_refl _), Nat.sub_self]
theorem sSj {S T : Sto} {n j : Nat} {o : Ob} (h : S.length = n) : (S ++ T).set (n + j) o = S ++ T.set j o := by rw [← h, List.set_append_right _ _ (Nat.le_add_right _ _), Nat.add_sub_cancel_left]
theorem tSe {S : Sto} {n : Nat} (h : S.length = n) : S.take n = S := by rw [← h]; exact List.take_length
theorem sh_tup : SeqAt.shaped (.tuple xs) = SeqAt.shaped (.tuple xs) := rfl
end
end Z

/-! Z23: loops in a rest. -/
namespace Z
open PySem PySem.Spec L2
open PyProof.Rows hiding St
section
variable {S S1 S2 S3 T : Sto} {E E1 Ew : Vn} {k : Nat} {elt : M SV} {c cond : M Bool} {d e : D} {ds : List D} {g : MG} {body : MS} {β : Type} {o : Out β}
theorem for_runN {α : Type} (I : Nat → α → Vn → Sto → Prop) (step : α → D → α) : ∀ (ds : List D) (s : α) (E : Vn) (S : Sto),
    (∀ (r : Nat) (s : α) (d : D) (E : Vn) (S : Sto), d ∈ ds → I (r + 1) s E S → ∃ E' S', (bdK body (g (.d d) E S) = .ok (.nx E') S' ∨ bdK body (g (.d d) E S) = .ok (.ct E') S') ∧ I r (step s d) E' S') → I ds.length s E S →
    ∃ E' S', forL g body ds E S = .ok (.nx E') S' ∧ I 0 (ds.foldl step s) E' S'
  | [], s, E, S, _, h => ⟨E, S, rfl, h⟩
  | d :: ds, s, E, S, f, h => by
    obtain ⟨E1, S1, h1, h2⟩ := f ds.length s d E S (by simp) h
    obtain ⟨E2, S2, h3, h4⟩ := for_runN I step ds (step s d) E1 S1 (fun r' s' d' E' S' hd => f r' s' d' E' S' (by simp [hd])) h2
    refine ⟨E2, S2, ?_, h4⟩
    rw [for_cons]
    rcases h1 with h1 | h1
    · rw [h1, fl_n]; exact h3
    · rw [h1, fl_c]; exact h3
theorem for_then {α : Type} (F : Out Fl → Out β) (I : Nat → α → Vn → Sto → Prop) (step : α → D → α) (s : α)
    (h0 : I ds.length s E S) (h : ∀ (r : Nat) (s : α) (d : D) (E : Vn) (S : Sto), d ∈ ds → I (r + 1) s E S → ∃ E' S', (bdK body (g (.d d) E S) = .ok (.nx E') S' ∨ bdK body (g (.d d) E S) = .ok (.ct E') S') ∧ I r (step s d) E' S')
    (hk : ∀ E' S', I 0 (ds.foldl step s) E' S' → F (.ok (.nx E') S') = o) : F (forL g body ds E S) = o := by
  obtain ⟨E', S', h1, h2⟩ := for_runN I step ds s E S h h0
  rw [h1]
  exact hk E' S' h2
theorem wh_then {α : Type} (F : Out Fl → Out β) (I : α → Vn → Sto → Prop) (mu : α → Nat) (step : α → α) (fin : α → Bool) (s : α) (hm : mu s < 1000000) (h0 : I s E S)
    (h : ∀ (s : α) (E : Vn) (S : Sto), I s E S → ∃ S1, c E S = .ok (!fin s) S1 ∧ if fin s = true then I s E S1 else mu (step s) < mu s ∧ ∃ E' S', body E S1 = .ok (.nx E') S' ∧ I (step s) E' S')
    (hk : ∀ s' E' S', I s' E' S' → fin s' = true → (∃ k, s' = Nat.repeat step k s ∧ ∀ j, j < k → fin (Nat.repeat step j s) = false) → F (.ok (.nx E') S') = o) : F (mWhile c body E S) = o := by
  obtain ⟨s', E', S', h1, h2, h3, h4⟩ := wh_run I mu step fin h fuelW s E S hm h0
  show F (whF c body fuelW E S) = o
  rw [h1]
  exact hk s' E' S' h2 h3 h4
theorem wh_thenP {α : Type} (P : Out β → Prop) (F : Out Fl → Out β) (I : α → Vn → Sto → Prop) (mu : α → Nat) (step : α → α) (fin : α → Bool) (s : α) (hm : mu s < 1000000) (h0 : I s E S)
    (h : ∀ (s : α) (E : Vn) (S : Sto), I s E S → ∃ S1, c E S = .ok (!fin s) S1 ∧ if fin s = true then I s E S1 else mu (step s) < mu s ∧ ∃ E' S', body E S1 = .ok (.nx E') S' ∧ I (step s) E' S')
    (hk : ∀ s' E' S', I s' E' S' → fin s' = true → (∃ k, s' = Nat.repeat step k s ∧ ∀ j, j < k → fin (Nat.repeat step j s) = false) → P (F (.ok (.nx E') S'))) : P (F (mWhile c body E S)) := by
  obtain ⟨s', E', S', h1, h2, h3, h4⟩ := wh_run I mu step fin h fuelW s E S hm h0
  show P (F (whF c body fuelW E S))
  rw [h1]
  exact hk s' E' S' h2 h3 h4
theorem for_thenP {α : Type} (P : Out β → Prop) (F : Out Fl → Out β) (I : Nat → α → Vn → Sto → Prop) (step : α → D → α) (s : α)
    (h0 : I ds.length s E S) (h : ∀ (r : Nat) (s : α) (d : D) (E : Vn) (S : Sto), d ∈ ds → I (r + 1) s E S → ∃ E' S', (bdK body (g (.d d) E S) = .ok (.nx E') S' ∨ bdK body (g (.d d) E S) = .ok (.ct E') S') ∧ I r (step s d) E' S')
    (hk : ∀ E' S', I 0 (ds.foldl step s) E' S' → P (F (.ok (.nx E') S'))) : P (F (forL g body ds E S)) := by
  obtain ⟨E', S', h1, h2⟩ := for_runN I step ds s E S h h0
  rw [h1]
  exact hk E' S' h2
theorem lcFold_map {f : D → D} : ∀ (ds : List D), (lcFold (fun (_ : Unit) d => ((), some (f d))) () ds).2 = ds.map f
  | [] => rfl
  | d :: ds => by
    show [f d] ++ _ = _
    rw [lcFold_map ds]
    rfl
/-- a comprehension of turns that change nothing -/
theorem lc_map (f : D → D) (hl : ds.length ≤ 16777216) (h : ∀ d ∈ ds, ∀ acc, ∃ E1, g (.d d) Ew (S ++ [.lst acc]) = .ok E1 (S ++ [.lst acc]) ∧ cond E1 (S ++ [.lst acc]) = .ok true (S ++ [.lst acc]) ∧ elt E1 (S ++ [.lst acc]) = .ok (.d (f d)) (S ++ [.lst acc])) :
    lcL g cond elt S.length Ew ds (S ++ [.lst []]) = .ok () (S ++ [.lst (ds.map f)]) := by
  obtain ⟨h1, _⟩ := lc_run (g := g) (cond := cond) (elt := elt) (Ew := Ew) (fun _ : Unit => True) (fun _ => S) S.length (fun _ _ => rfl) (fun _ d => ((), some (f d))) ds () [] (fun _ d hd _ => ⟨trivial, ⟨fun acc => by
    obtain ⟨E1, q1, q2, q3⟩ := h d hd acc
    refine ⟨E1, S, S, q1, q2, fun y hy => ?_, fun z => rfl⟩
    cases hy
    exact q3⟩⟩) trivial (by simpa using hl)
  rw [h1, lcFold_map, List.nil_append]
end
end Z

/-! Z24: comprehensions in a rest; the same data compared. -/
namespace Z
open PySem PySem.Spec L2
open PyProof.Rows hiding St
section
variable {S S0 S1 S2 S3 T : Sto} {E E1 Ew : Vn} {k : Nat} {elt : M SV} {c cond cond1 : M Bool} {it it1 : M (List D)} {d e : D} {ds : List D} {g g1 : MG} {body : MS} {β : Type} {o : Out β}
theorem lc_then {α : Type} (F : Out Unit → Out β) (I : α → Prop) (T : α → Sto) (step : α → D → α × Option D) (s : α) (e0 : S0 = T s ++ [.lst []]) (hk : ∀ s, I s → (T s).length = k) (hI : I s) (hl : ds.length ≤ 16777216)
    (h : ∀ (s : α) (d : D), d ∈ ds → I s → I (step s d).1 ∧ LcTurn g cond elt Ew d (T s) (T (step s d).1) (step s d).2)
    (hK : I (lcFold step s ds).1 → F (.ok () (T (lcFold step s ds).1 ++ [.lst (lcFold step s ds).2])) = o) : F (lcL g cond elt k Ew ds S0) = o := by
  obtain ⟨h1, h2⟩ := lc_run (g := g) (cond := cond) (elt := elt) (Ew := Ew) I T k hk step ds s [] h hI (by simpa using hl)
  rw [e0, h1, List.nil_append]
  exact hK h2
theorem lc_eq {α : Type} (I : α → Prop) (T : α → Sto) (step : α → D → α × Option D) (s : α) (e0 : S0 = T s ++ [.lst []]) (hk : ∀ s, I s → (T s).length = k) (hI : I s) (hl : ds.length ≤ 16777216)
    (h : ∀ (s : α) (d : D), d ∈ ds → I s → I (step s d).1 ∧ LcTurn g cond elt Ew d (T s) (T (step s d).1) (step s d).2) :
    lcL g cond elt k Ew ds S0 = .ok () (T (lcFold step s ds).1 ++ [.lst (lcFold step s ds).2]) := by
  obtain ⟨h1, _⟩ := lc_run (g := g) (cond := cond) (elt := elt) (Ew := Ew) I T k hk step ds s [] h hI (by simpa using hl)
  rw [e0, h1, List.nil_append]
/-- .. of turns that change nothing -/
theorem lc_map2 (f : D → D) {acc0 : List D} (hl : acc0.length + ds.length ≤ 16777216) (h : ∀ d ∈ ds, ∀ acc, ∃ E1, g (.d d) Ew (S ++ [.lst acc]) = .ok E1 (S ++ [.lst acc]) ∧ cond E1 (S ++ [.lst acc]) = .ok true (S ++ [.lst acc]) ∧ elt E1 (S ++ [.lst acc]) = .ok (.d (f d)) (S ++ [.lst acc])) :
    lcL g cond elt S.length Ew ds (S ++ [.lst acc0]) = .ok () (S ++ [.lst (acc0 ++ ds.map f)]) := by
  obtain ⟨h1, _⟩ := lc_run (g := g) (cond := cond) (elt := elt) (Ew := Ew) (fun _ : Unit => True) (fun _ => S) S.length (fun _ _ => rfl) (fun _ d => ((), some (f d))) ds () acc0 (fun _ d hd _ => ⟨trivial, ⟨fun acc => by
    obtain ⟨E1, q1, q2, q3⟩ := h d hd acc
    refine ⟨E1, S, S, q1, q2, fun y hy => ?_, fun z => rfl⟩
    cases hy
    exact q3⟩⟩) trivial hl
  rw [h1, lcFold_map]
theorem lc_mapT (F : Out Unit → Out β) (S' : Sto) (f : D → D) (e0 : S0 = S' ++ [.lst []]) (hk : S'.length = k) (hl : ds.length ≤ 16777216) (h : ∀ d ∈ ds, ∀ acc, ∃ E1, g (.d d) Ew (S' ++ [.lst acc]) = .ok E1 (S' ++ [.lst acc]) ∧ cond E1 (S' ++ [.lst acc]) = .ok true (S' ++ [.lst acc]) ∧ elt E1 (S' ++ [.lst acc]) = .ok (.d (f d)) (S' ++ [.lst acc]))
    (hK : F (.ok () (S' ++ [.lst (ds.map f)])) = o) : F (lcL g cond elt k Ew ds S0) = o := by
  rw [e0, ← hk, lc_map2 (S := S') f (acc0 := []) (by simpa using hl) h, List.nil_append]
  exact hK
/-! two clauses -/
def l2K (g : MG) (cond : M Bool) (it1 : M (List D)) (g1 : MG) (cond1 : M Bool) (elt : M SV) (vs1 : List Nat) (Ew : Vn) : Out (List D) → Out SV
  | .ok ds S => match lc2L g cond it1 g1 cond1 elt S.length Ew vs1 ds (S ++ [.lst []]) with
    | .ok _ S2 => .ok (.r S.length) S2
    | .exc x S2 => .exc x S2
    | .bad => .bad
  | .exc x S => .exc x S
  | .bad => .bad
theorem r_lc2 {vs vs1 : List Nat} : mLc2 it g cond it1 g1 cond1 elt vs vs1 E S = l2K g cond it1 g1 cond1 elt vs1 (wipeE E vs) (it E S) := by
  unfold mLc2 l2K
  cases it E S with
  | ok ds S1 =>
    simp only [bind_ok]
    cases lc2L g cond it1 g1 cond1 elt S1.length (wipeE E vs) vs1 ds (S1 ++ [.lst []]) <;> rfl
  | exc x S1 => rfl
  | bad => rfl
theorem l2_o {vs1 : List Nat} : l2K g cond it1 g1 cond1 elt vs1 Ew (.ok ds S) = lmL S.length (lc2L g cond it1 g1 cond1 elt S.length Ew vs1 ds (S ++ [.lst []])) := by
  show (match lc2L g cond it1 g1 cond1 elt S.length Ew vs1 ds (S ++ [.lst []]) with | .ok _ S2 => _ | .exc x S2 => _ | .bad => _) = _
  unfold lmL
  cases lc2L g cond it1 g1 cond1 elt S.length Ew vs1 ds (S ++ [.lst []]) <;> rfl
theorem lc2_map {vs1 : List Nat} (h1 : D → List D) (f : D → D → D) : ∀ (ds : List D) (acc0 : List D), acc0.length + (ds.flatMap fun d => (h1 d).map (f d)).length ≤ 16777216 →
    (∀ d ∈ ds, ∃ E1, (∀ acc, g (.d d) Ew (S ++ [.lst acc]) = .ok E1 (S ++ [.lst acc]) ∧ cond E1 (S ++ [.lst acc]) = .ok true (S ++ [.lst acc]) ∧ it1 E1 (S ++ [.lst acc]) = .ok (h1 d) (S ++ [.lst acc])) ∧
      ∀ d1 ∈ h1 d, ∀ acc, ∃ E2, g1 (.d d1) (wipeE E1 vs1) (S ++ [.lst acc]) = .ok E2 (S ++ [.lst acc]) ∧ cond1 E2 (S ++ [.lst acc]) = .ok true (S ++ [.lst acc]) ∧ elt E2 (S ++ [.lst acc]) = .ok (.d (f d d1)) (S ++ [.lst acc])) →
    lc2L g cond it1 g1 cond1 elt S.length Ew vs1 ds (S ++ [.lst acc0]) = .ok () (S ++ [.lst (acc0 ++ ds.flatMap fun d => (h1 d).map (f d))])
  | [], acc0, _, _ => by
    show Out.ok () _ = _
    simp
  | d :: ds, acc0, hl, h => by
    obtain ⟨E1, q1, q2⟩ := h d (by simp)
    obtain ⟨a1, a2, a3⟩ := q1 acc0
    rw [List.flatMap_cons, List.length_append, List.length_map] at hl
    have b := lc_map2 (g := g1) (cond := cond1) (elt := elt) (Ew := wipeE E1 vs1) (S := S) (ds := h1 d) (acc0 := acc0) (f d) (by omega) q2
    have r := lc2_map h1 f ds (acc0 ++ (h1 d).map (f d)) (by rw [List.length_append, List.length_map]; omega) fun d' hd' => h d' (by simp [hd'])
    show Out.bind _ _ = _
    rw [a1]
    simp only [noX, bind_ok]
    rw [a2]
    simp only [bind_ok, if_true]
    rw [a3]
    simp only [bind_ok]
    rw [b]
    simp only [bind_ok]
    rw [r, List.append_assoc, List.flatMap_cons]
theorem tL_l {n : Nat} {xs : List D} : tL n S (some (.list xs)) = .ok (!xs.isEmpty) (S.take n) := rfl
theorem tL_t {n : Nat} {xs : List D} : tL n S (some (.tuple xs)) = .ok (!xs.isEmpty) (S.take n) := rfl
theorem tL_i {n : Nat} {i : Int} : tL n S (some (.int i)) = .ok (i != 0) (S.take n) := rfl
theorem po_ok {ys : List D} {v : Int} (h0 : 0 ≤ v) (h1 : v < ys.length) (h2 : ys.length ≤ 16777216) : poK ys (some (.int v)) = some (ys.eraseIdx v.toNat, ys[v.toNat]'(by omega)) := by
  unfold poK
  dsimp only
  rw [if_pos ⟨by omega, by omega⟩]
  have e : seqIndex? v ys.length = some v.toNat := by
    have := (ixN_seq (n := ys.length) (i := v) (j := v.toNat) (by unfold ixN; rw [if_pos h0, if_pos h1])).1
    exact this
  rw [e]
  simp only [Option.bind_some]
  rw [List.getElem?_eq_getElem (by omega)]
  rfl
theorem gNe_nil {xs : List D} (h : SeqAt.shaped (.list xs) = true) : gNe (.list xs) (.list []) = some (!xs.isEmpty) := by
  unfold gNe okEq
  rw [h, show SeqAt.shaped (.list []) = true from rfl]
  cases xs with
  | nil => rfl
  | cons x xs => rfl
theorem blsOf_true {l : List D} : blsOf (l.map fun _ => PyData.bool true) = some (l.map fun _ => true) := by
  induction l with
  | nil => rfl
  | cons x l ih => simp [blsOf, ih]
theorem all_true {l : List D} : ((l.map fun _ => true).all id) = true := by simp
end
/-! data that are the same -/
mutual
theorem eqv_self : ∀ (d : D), d.canLay0 = true → PyData.eqv d d = true
  | .none, _ => by rw [PyData.eqv]
  | .bool b, _ => by rw [PyData.eqv]; simp
  | .int i, _ => by rw [PyData.eqv]; simp
  | .str x, _ => by rw [PyData.eqv]; simp
  | .list xs, h => by rw [PyData.eqv]; exact eqvs_self xs (by rw [PyData.canLay0] at h; exact h)
  | .tuple xs, h => by rw [PyData.eqv]; exact eqvs_self xs (by rw [PyData.canLay0] at h; exact h)
  | .dict xs, h => by rw [PyData.canLay0] at h; cases h
theorem eqvs_self : ∀ (xs : List D), PyData.canLayAll0 xs = true → PyData.eqvAll xs xs = true
  | [], _ => by rw [PyData.eqvAll]
  | x :: xs, h => by
    rw [PyData.canLayAll0, Bool.and_eq_true] at h
    rw [PyData.eqvAll, eqv_self x h.1, eqvs_self xs h.2]
    rfl
end
theorem gNe_same {d : D} (h : SeqAt.shaped d = true) : gNe d d = some false := by
  unfold gNe okEq
  rw [h, eqv_self d (SeqAt.canLay_of_shaped h)]
  rfl
theorem gEq_same {d : D} (h : SeqAt.shaped d = true) : gEq d d = some true := by
  unfold gEq okEq
  rw [h, eqv_self d (SeqAt.canLay_of_shaped h)]
  rfl
theorem clays : ∀ (xs : List D), (∀ x ∈ xs, x.canLay0 = true) → PyData.canLayAll0 xs = true
  | [], _ => by rw [PyData.canLayAll0]
  | x :: xs, h => by rw [PyData.canLayAll0, h x (by simp), clays xs fun y hy => h y (by simp [hy])]; rfl
theorem deps {n : Nat} : ∀ (xs : List D), (∀ x ∈ xs, x.depth ≤ n) → PyData.depthAll xs ≤ n
  | [], _ => by rw [PyData.depthAll]; omega
  | x :: xs, h => by
    rw [PyData.depthAll]
    have := h x (by simp)
    have := deps xs fun y hy => h y (by simp [hy])
    omega
/-- data of a low depth -/
structure Lay (n : Nat) (d : D) : Prop where
  c : d.canLay0 = true
  d : d.depth ≤ n
theorem Lay.int {n : Nat} (i : Int) : Lay n (.int i) := ⟨rfl, Nat.zero_le _⟩
theorem Lay.bool {n : Nat} (i : Bool) : Lay n (.bool i) := ⟨rfl, Nat.zero_le _⟩
theorem Lay.none {n : Nat} : Lay n .none := ⟨rfl, Nat.zero_le _⟩
theorem Lay.tup {n : Nat} {xs : List D} (h : ∀ x ∈ xs, Lay n x) : Lay (n + 1) (.tuple xs) := ⟨by rw [PyData.canLay0]; exact clays xs fun x hx => (h x hx).c, by rw [PyData.depth]; exact Nat.succ_le_succ (deps xs fun x hx => (h x hx).d)⟩
theorem Lay.lst {n : Nat} {xs : List D} (h : ∀ x ∈ xs, Lay n x) : Lay (n + 1) (.list xs) := ⟨by rw [PyData.canLay0]; exact clays xs fun x hx => (h x hx).c, by rw [PyData.depth]; exact Nat.succ_le_succ (deps xs fun x hx => (h x hx).d)⟩
theorem Lay.sh {n : Nat} {d : D} (h : Lay n d) (hn : n ≤ 64) : SeqAt.shaped d = true := by
  unfold SeqAt.shaped
  rw [h.c, decide_eq_true (Nat.le_trans h.d hn)]
  rfl
theorem foldl_flat {h : D → List D} : ∀ (ds acc : List D), ds.foldl (fun s d => s ++ h d) acc = acc ++ ds.flatMap h
  | [], acc => by simp
  | d :: ds, acc => by simp [foldl_flat ds]
end Z

/-! The program by places, its terms. -/
namespace Lw
open PySem PySem.Spec L2 Z
open PyProof.Rows hiding St
def top (i : Nat) : Stmt := PySem.Challenge.pw_porterbook_k12_worlds_of_houses_drawn_by.main.body.getD i (.Pass ⟨0, 0, 0, 0⟩)
def k_CUT : D := (.int 7)
def k_FACTOR : D := (.int 48271)
def k_MODULUS : D := (.int 2147483647)
def k_MOST_MOMENT : D := (.int 9999)
def k_MOST_PEOPLE : D := (.int 10)
def k_MOST_SHIFTS : D := (.int 12)
def k_NAMES : D := (.tuple [(.str "ash"), (.str "bea"), (.str "cid"), (.str "dot"), (.str "eli"), (.str "fay")])
def k_SUMMAND : D := (.int 11)
def m__law_bag : MS := (mRet (mB fLst (mCons (mC (.int 0)) (mCons (mC (.int 1234567891)) (mCons (mC (.int 0)) (mCons (mFz (mLc (mIt (mSl none (some (mC (.int 63))) (mVar 0))) (gNm 1) mYes (mB (a1 gAbs) (mCons (mVar 1) mNil)) [1])) mNil))))))
def p__law_bag : List SV → Sto → Out SV := fnM 2 m__law_bag
def m__law_take : MS := (mSeq (mIfS (mT (m2 (on2 (bV gEq)) (m2 (on2 gIx) (mVar 0) (mC (.int 0))) (mC (.int 0)))) (mSeq (mSet 2 (m2 (on2 gIx) (m2 (on2 gAdd) (mSl (some (m2 (on2 gIx) (mVar 0) (mC (.int 2)))) none (m2 (on2 gIx) (mVar 0) (mC (.int 3)))) (mB fLst (mCons (mC (.int 0)) mNil))) (mC (.int 0))))
  (mSeq (mAugIx .Add (mVar 0) (mC (.int 2)) (mC (.int 1)))
  (mSeq (mIfS (mT (m2 (on2 (bV (gOrd .GtE))) (mVar 2) (m2 (on2 gPow) (mC (.int 10)) (mC (.int 18))))) (mSetIx (mVar 0) (mC (.int 0)) (mFz (mVar 2))) mSkip)
  (mSeq (mSet 3 (m2 (on2 gAdd) (m2 (on2 gAdd) (m2 (on2 gMul) (m2 (on2 gIx) (mVar 0) (mC (.int 1))) (mC (.int 48271))) (m2 (on2 gMod) (mB (a1 gInt) (mCons (mVar 2) mNil)) (mC (.int 2147483647)))) (m2 (on2 gMul) (mC (.int 7919)) (m2 (on2 gIx) (mVar 0) (mC (.int 2))))))
  (mSetIx (mVar 0) (mC (.int 1)) (m2 (on2 gMod) (mB (a1 gInt) (mCons (mVar 3) mNil)) (mC (.int 2147483647)))))))) mSkip)
  (mSeq (mIfS (mT (m2 (on2 (bV (gOrd .Gt))) (m2 (on2 gIx) (mVar 0) (mC (.int 0))) (mC (.int 0)))) (mSeq (mSet 4 (m2 (on2 gMod) (mB (a1 gInt) (mCons (m2 (on2 gIx) (mVar 0) (mC (.int 0))) mNil)) (mVar 1)))
  (mSeq (mSetIx (mVar 0) (mC (.int 0)) (m2 (on2 gDiv) (mB (a1 gInt) (mCons (m2 (on2 gIx) (mVar 0) (mC (.int 0))) mNil)) (mVar 1)))
  (mRet (mVar 4)))) mSkip)
  (mSeq (mSet 5 (m2 (on2 gMod) (mB (a1 gInt) (mCons (m2 (on2 gMul) (m2 (on2 gAdd) (m2 (on2 gIx) (mVar 0) (mC (.int 1))) (mC (.int 1))) (mC (.int 39373))) mNil)) (mC (.int 1000000007))))
  (mSeq (mSet 6 (m2 (on2 gMod) (mB (a1 gInt) (mCons (m2 (on2 gMul) (m2 (on2 gMod) (mB (a1 gInt) (mCons (m2 (on2 gMul) (mVar 5) (mVar 5)) mNil)) (mC (.int 998244353))) (mC (.int 30011))) mNil)) (mC (.int 998244353))))
  (mRet (m2 (on2 gMod) (mB (a1 gInt) (mCons (m2 (on2 gDiv) (mVar 6) (mC (.int 7))) mNil)) (mVar 1)))))))
def p__law_take : List SV → Sto → Out SV := fnM 7 m__law_take
def m__law_some : MS := (mRet (m2 (on2 gIx) (mVar 1) (mCall 2 p__law_take (mCons (mVar 0) (mCons (mB (a1 gLen) (mCons (mVar 1) mNil)) mNil)))))
def p__law_some : List SV → Sto → Out SV := fnM 2 m__law_some
def m__law_begun : MS := (mRet (mB fLst (mCons (m2 (on2 gMod) (mB (a1 gInt) (mCons (mVar 0) mNil)) (mC (.int 2147483647))) mNil)))
def p__law_begun : List SV → Sto → Out SV := fnM 1 m__law_begun
def m_Draws___init__ : MS := (mSetF "Draws" "its_state" (mVar 0) (m2 (on2 gMod) (mVar 1) (mC k_MODULUS)))
def p_Draws___init__ : List SV → Sto → Out SV := fnM 2 m_Draws___init__
def m_Draws_state : MS := (mRet (mFld "Draws" "its_state" (mVar 0)))
def p_Draws_state : List SV → Sto → Out SV := fnM 1 m_Draws_state
def m__law_draw : MS := (mSeq (mSetIx (mVar 0) (mC (.int 0)) (m2 (on2 gMod) (mB (a1 gInt) (mCons (m2 (on2 gAdd) (m2 (on2 gMul) (m2 (on2 gIx) (mVar 0) (mC (.int 0))) (mC (.int 48271))) (mC (.int 11))) mNil)) (mC (.int 2147483647))))
  (mRet (m2 (on2 gMod) (mB (a1 gInt) (mCons (m2 (on2 gDiv) (m2 (on2 gIx) (mVar 0) (mC (.int 0))) (mC (.int 7))) mNil)) (mVar 1))))
def p__law_draw : List SV → Sto → Out SV := fnM 2 m__law_draw
def m__law_alike : MS := (mSeq (mPar [2, 3] (mCons (mB fLst (mCons (mB fTup (mCons (mFz (mVar 0)) (mCons (mFz (mVar 1)) mNil))) mNil)) (mCons (mC (.int 0)) mNil)))
  (mSeq (mWhile (mT (m2 (on2 (bV (gOrd .Lt))) (mVar 3) (mB (a1 gLen) (mCons (mVar 2) mNil)))) (mSeq (mAsg (gTp 2 (gsCons (gNm 4) (gsCons (gNm 5) gsNil))) (m2 (on2 gIx) (mVar 2) (mVar 3)))
  (mSeq (mAug 3 .Add (mC (.int 1)))
  (mSeq (mIfS (mOr (mT (m2 (on2 (bV gNe)) (m1 (on1 (gIsi "bool")) (mVar 4)) (m1 (on1 (gIsi "bool")) (mVar 5)))) (mT (m2 (on2 (bV gNe)) (m1 (on1 (gIsi "str")) (mVar 4)) (m1 (on1 (gIsi "str")) (mVar 5))))) (mRet (mC (.bool false))) mSkip)
  (mSeq (mIfS (mT (m2 (on2 (bV gNe)) (m1 (on1 (gIsi2 "tuple" "list")) (mVar 4)) (m1 (on1 (gIsi2 "tuple" "list")) (mVar 5)))) (mRet (mC (.bool false))) mSkip)
  (mIfS (mT (m1 (on1 (gIsi2 "tuple" "list")) (mVar 4))) (mSeq (mIfS (mOr (mT (m2 (on2 (bV gNe)) (m1 (on1 (gIsi "tuple")) (mVar 4)) (m1 (on1 (gIsi "tuple")) (mVar 5)))) (mT (m2 (on2 (bV gNe)) (mB (a1 gLen) (mCons (mVar 4) mNil)) (mB (a1 gLen) (mCons (mVar 5) mNil))))) (mRet (mC (.bool false))) mSkip)
  (mDrop (mMt fExt (mVar 2) (mCons (mB (a2 gZip) (mCons (mVar 4) (mCons (mVar 5) mNil))) mNil)))) (mIfS (mT (m2 (on2 (bV gNe)) (mVar 4) (mVar 5))) (mRet (mC (.bool false))) mSkip)))))))
  (mRet (mC (.bool true)))))
def p__law_alike : List SV → Sto → Out SV := fnM 6 m__law_alike
def m_Draws_take : MS := (mSeq (mSetF "Draws" "its_state" (mVar 0) (m2 (on2 gMod) (m2 (on2 gAdd) (m2 (on2 gMul) (mFld "Draws" "its_state" (mVar 0)) (mC k_FACTOR)) (mC k_SUMMAND)) (mC k_MODULUS)))
  (mRet (m2 (on2 gMod) (m2 (on2 gDiv) (mFld "Draws" "its_state" (mVar 0)) (mC k_CUT)) (mVar 1))))
def p_Draws_take : List SV → Sto → Out SV := fnM 2 m_Draws_take
def m_drawn_spans : MS := (mSeq (mPar [3, 4] (mCons (mMake "Draws" 2 p_Draws___init__ (mCons (mFz (mVar 0)) mNil)) (mCons (mB fLst mNil) mNil)))
  (mSeq (mFor (mRng1 (mCons (mFz (mVar 1)) mNil)) (gNm 5) (mSeq (mSet 6 (mMeth "Draws" "take" 2 p_Draws_take (mVar 3) (mCons (mC (.int 100)) mNil)))
  (mDrop (mMt fApp (mVar 4) (mCons (mB fTup (mCons (mFz (mVar 6)) (mCons (mFz (m2 (on2 gAdd) (mVar 6) (mMeth "Draws" "take" 2 p_Draws_take (mVar 3) (mCons (mFz (mVar 2)) mNil)))) mNil))) mNil)))))
  (mRet (mB (a1 gTupOf) (mCons (mVar 4) mNil)))))
def p_drawn_spans : List SV → Sto → Out SV := fnM 7 m_drawn_spans
def m_drawn_visits : MS := (mRet (mCall 3 p_drawn_spans (mCons (mFz (mVar 0)) (mCons (mFz (mVar 1)) (mCons (mFz (mVar 2)) mNil)))))
def p_drawn_visits : List SV → Sto → Out SV := fnM 3 m_drawn_visits
def m__law_own_visits : MS := (mSeq (mPar [3, 4] (mCons (mCall 1 p__law_begun (mCons (mFz (mVar 0)) mNil)) (mCons (mB fLst mNil) mNil)))
  (mSeq (mFor (mRng1 (mCons (mFz (mVar 1)) mNil)) (gNm 5) (mSeq (mSet 6 (mCall 2 p__law_draw (mCons (mVar 3) (mCons (mC (.int 100)) mNil))))
  (mDrop (mMt fApp (mVar 4) (mCons (mB fTup (mCons (mFz (mVar 6)) (mCons (mFz (m2 (on2 gAdd) (mVar 6) (mCall 2 p__law_draw (mCons (mVar 3) (mCons (mFz (mVar 2)) mNil))))) mNil))) mNil)))))
  (mRet (mB (a1 gTupOf) (mCons (mVar 4) mNil)))))
def p__law_own_visits : List SV → Sto → Out SV := fnM 7 m__law_own_visits
def m_are_all (Φ : Str → Option (List SV → Sto → Out SV)) : MS := (mRet (mAndV (m1 (on1 (gIsi "tuple")) (mVar 0)) (mB (a1 gAll) (mCons (mLc (mIt (mVar 0)) (gNm 2) mYes (mFz (mCallV 1 1 Φ (mCons (mFz (mVar 2)) mNil))) [2]) mNil))))
def p_are_all (Φ : Str → Option (List SV → Sto → Out SV)) : List SV → Sto → Out SV := fnM 3 (m_are_all Φ)
def m_is_integer : MS := (mRet (mAndV (m1 (on1 (gIsi "int")) (mVar 0)) (m1 (on1 gNot) (m1 (on1 (gIsi "bool")) (mVar 0)))))
def p_is_integer : List SV → Sto → Out SV := fnM 1 m_is_integer
def m_are_integers : MS := (mRet (mCall 2 (p_are_all (tab1 "is_integer" p_is_integer)) (mCons (mFz (mVar 0)) (mCons (mFz (mFn "is_integer")) mNil))))
def p_are_integers : List SV → Sto → Out SV := fnM 1 m_are_integers
def m_is_pair : MS := (mRet (mAndV (mCall 1 p_are_integers (mCons (mFz (mVar 0)) mNil)) (m2 (on2 (bV gEq)) (mB (a1 gLen) (mCons (mVar 0) mNil)) (mC (.int 2)))))
def p_is_pair : List SV → Sto → Out SV := fnM 1 m_is_pair
def m_are_pairs : MS := (mRet (mCall 2 (p_are_all (tab1 "is_pair" p_is_pair)) (mCons (mFz (mVar 0)) (mCons (mFz (mFn "is_pair")) mNil))))
def p_are_pairs : List SV → Sto → Out SV := fnM 1 m_are_pairs
def m_is_moment : MS := (mRet (mChain (gOrd .LtE) (gOrd .LtE) (m2 (on2 gSub) (mC (.int 0)) (mC k_MOST_MOMENT)) (mVar 0) (mC k_MOST_MOMENT)))
def p_is_moment : List SV → Sto → Out SV := fnM 1 m_is_moment
def m_checked_visits : MS := (mSeq (mIfS (mNot (mT (mCall 1 p_are_pairs (mCons (mFz (mVar 1)) mNil)))) mBad mSkip)
  (mSeq (mIfS (mT (m2 (on2 (bV gNe)) (mB (a1 gLen) (mCons (mVar 1) mNil)) (mVar 0))) mBad mSkip)
  (mSeq (mFor (mEnum (mVar 1)) (gTp 2 (gsCons (gNm 2) (gsCons (gTp 2 (gsCons (gNm 3) (gsCons (gNm 4) gsNil))) gsNil))) (mSeq (mIfS (mOr (mNot (mT (mCall 1 p_is_moment (mCons (mFz (mVar 3)) mNil)))) (mNot (mT (mCall 1 p_is_moment (mCons (mFz (mVar 4)) mNil))))) mBad mSkip)
  (mIfS (mT (m2 (on2 (bV (gOrd .Gt))) (mVar 3) (mVar 4))) mBad mSkip)))
  (mRet (mVar 1)))))
def p_checked_visits : List SV → Sto → Out SV := fnM 5 m_checked_visits
def m_all_couples : MS := (mRet (mLc2 (mRng1 (mCons (mFz (mVar 0)) mNil)) (gNm 1) mYes (mRng2 (mCons (mFz (m2 (on2 gAdd) (mVar 1) (mC (.int 1)))) (mCons (mFz (mVar 0)) mNil))) (gNm 2) mYes (mB fTup (mCons (mFz (mVar 1)) (mCons (mFz (mVar 2)) mNil))) [1, 2] [2]))
def p_all_couples : List SV → Sto → Out SV := fnM 3 m_all_couples
def m_drawn_table : MS := (mSeq (mSet 2 (mMake "Draws" 2 p_Draws___init__ (mCons (mFz (mVar 0)) mNil)))
  (mRet (mB fTup (mCons (mFz (mVar 1)) (mCons (mB (a1 gTupOf) (mCons (mLc (mIt (mCall 1 p_all_couples (mCons (mFz (mVar 1)) mNil))) (gNm 3) (mT (m2 (on2 (bV (gOrd .Lt))) (mMeth "Draws" "take" 2 p_Draws_take (mVar 2) (mCons (mC (.int 5)) mNil)) (mC (.int 2)))) (mFz (mVar 3)) [3]) mNil)) mNil)))))
def p_drawn_table : List SV → Sto → Out SV := fnM 4 m_drawn_table
def m__law_couples : MS := (mSeq (mSet 1 (mB fLst mNil))
  (mSeq (mFor (mRng1 (mCons (mFz (mVar 0)) mNil)) (gNm 2) (mDrop (mMt fExt (mVar 1) (mCons (mLc (mRng2 (mCons (mFz (m2 (on2 gAdd) (mVar 2) (mC (.int 1)))) (mCons (mFz (mVar 0)) mNil))) (gNm 3) mYes (mB fTup (mCons (mFz (mVar 2)) (mCons (mFz (mVar 3)) mNil))) [3]) mNil))))
  (mRet (mVar 1))))
def p__law_couples : List SV → Sto → Out SV := fnM 4 m__law_couples
def m__law_own_table : MS := (mSeq (mSet 2 (mCall 1 p__law_begun (mCons (mFz (mVar 0)) mNil)))
  (mRet (mB fTup (mCons (mFz (mVar 1)) (mCons (mB (a1 gTupOf) (mCons (mLc (mIt (mCall 1 p__law_couples (mCons (mFz (mVar 1)) mNil))) (gNm 3) (mT (m2 (on2 (bV (gOrd .Lt))) (mCall 2 p__law_draw (mCons (mVar 2) (mCons (mC (.int 5)) mNil))) (mC (.int 2)))) (mFz (mVar 3)) [3]) mNil)) mNil)))))
def p__law_own_table : List SV → Sto → Out SV := fnM 4 m__law_own_table
def m_couple_fault : MS := (mSeq (mAsg (gTp 2 (gsCons (gNm 3) (gsCons (gNm 4) gsNil))) (mVar 1))
  (mSeq (mIfS (mNot (mT (mChain3 (gOrd .LtE) (gOrd .Lt) (gOrd .Lt) (mC (.int 0)) (mVar 3) (mVar 4) (mVar 0)))) (mRet (mC (.str "people"))) mSkip)
  (mRet (mIf (mAnd (mT (mVar 2)) (mT (m2 (on2 (bV (gOrd .LtE))) (mVar 1) (m2 (on2 gIx) (mVar 2) (m1 (on1 gNeg) (mC (.int 1))))))) (mC (.str "order")) (mC .none)))))
def p_couple_fault : List SV → Sto → Out SV := fnM 5 m_couple_fault
def m_checked_table : MS := (mSeq (mIfS (mOr (mNot (mT (m1 (on1 (gIsi "tuple")) (mVar 0)))) (mOr (mT (m2 (on2 (bV gNe)) (mB (a1 gLen) (mCons (mVar 0) mNil)) (mC (.int 2)))) (mOr (mNot (mT (mCall 1 p_is_integer (mCons (m2 (on2 gIx) (mVar 0) (mC (.int 0))) mNil)))) (mNot (mT (mCall 1 p_are_pairs (mCons (m2 (on2 gIx) (mVar 0) (mC (.int 1))) mNil))))))) mBad mSkip)
  (mSeq (mAsg (gTp 2 (gsCons (gNm 1) (gsCons (gNm 2) gsNil))) (mVar 0))
  (mSeq (mIfS (mNot (mT (mChain (gOrd .LtE) (gOrd .LtE) (mC (.int 1)) (mVar 1) (mC k_MOST_PEOPLE)))) mBad mSkip)
  (mSeq (mFor (mEnum (mVar 2)) (gTp 2 (gsCons (gNm 3) (gsCons (gNm 4) gsNil))) (mSeq (mSet 5 (mCall 3 p_couple_fault (mCons (mFz (mVar 1)) (mCons (mFz (mVar 4)) (mCons (mFz (mSl none (some (mVar 3)) (mVar 2))) mNil)))))
  (mIfS (mT (m2 (on2 (bV gNotN)) (mVar 5) (mC .none))) mBad mSkip)))
  (mRet (mVar 0))))))
def p_checked_table : List SV → Sto → Out SV := fnM 6 m_checked_table
def m__law_own_shifts : MS := (mSeq (mPar [2, 3] (mCons (mCall 1 p__law_begun (mCons (mFz (mVar 0)) mNil)) (mCons (mB fLst mNil) mNil)))
  (mSeq (mFor (mRng1 (mCons (mFz (mVar 1)) mNil)) (gNm 4) (mSeq (mSet 5 (mCall 2 p__law_draw (mCons (mVar 2) (mCons (mC (.int 100)) mNil))))
  (mDrop (mMt fApp (mVar 3) (mCons (mB fTup (mCons (mFz (mVar 5)) (mCons (mFz (m2 (on2 gAdd) (mVar 5) (mCall 2 p__law_draw (mCons (mVar 2) (mCons (mC (.int 30)) mNil))))) mNil))) mNil)))))
  (mRet (mB (a1 gTupOf) (mCons (mVar 3) mNil)))))
def p__law_own_shifts : List SV → Sto → Out SV := fnM 6 m__law_own_shifts
def m__law_own_rank : MS := (mSeq (mPar [2, 3, 4] (mCons (mCall 1 p__law_begun (mCons (mFz (mVar 0)) mNil)) (mCons (m1 (on1 gListRg1) (mVar 1)) (mCons (mB fLst mNil) mNil))))
  (mSeq (mWhile (mT (m2 (on2 (bV gNe)) (mVar 3) (mB fLst mNil))) (mDrop (mMt fApp (mVar 4) (mCons (mFz (mMt fPopAt (mVar 3) (mCons (mFz (mCall 2 p__law_draw (mCons (mVar 2) (mCons (mB (a1 gLen) (mCons (mVar 3) mNil)) mNil)))) mNil))) mNil))))
  (mRet (mB (a1 gTupOf) (mCons (mVar 4) mNil)))))
def p__law_own_rank : List SV → Sto → Out SV := fnM 5 m__law_own_rank
def m_drawn_shifts : MS := (mRet (mCall 3 p_drawn_spans (mCons (mFz (mVar 0)) (mCons (mFz (mVar 1)) (mCons (mC (.int 30)) mNil)))))
def p_drawn_shifts : List SV → Sto → Out SV := fnM 2 m_drawn_shifts
def m_drawn_rank : MS := (mSeq (mPar [2, 3, 4] (mCons (mMake "Draws" 2 p_Draws___init__ (mCons (mFz (mVar 0)) mNil)) (mCons (m1 (on1 gListRg1) (mVar 1)) (mCons (mB fLst mNil) mNil))))
  (mSeq (mWhile (mT (mVar 3)) (mDrop (mMt fApp (mVar 4) (mCons (mFz (mMt fPopAt (mVar 3) (mCons (mFz (mMeth "Draws" "take" 2 p_Draws_take (mVar 2) (mCons (mB (a1 gLen) (mCons (mVar 3) mNil)) mNil))) mNil))) mNil))))
  (mRet (mB (a1 gTupOf) (mCons (mVar 4) mNil)))))
def p_drawn_rank : List SV → Sto → Out SV := fnM 5 m_drawn_rank
def m_are_shifts : MS := (mSeq (mIfS (mOr (mNot (mT (mCall 1 p_are_pairs (mCons (mFz (mVar 0)) mNil)))) (mT (m2 (on2 (bV (gOrd .Gt))) (mB (a1 gLen) (mCons (mVar 0) mNil)) (mC k_MOST_SHIFTS)))) (mRet (mC (.bool false))) mSkip)
  (mRet (mB (a1 gAll) (mCons (mLc (mIt (mVar 0)) (gTp 2 (gsCons (gNm 1) (gsCons (gNm 2) gsNil))) mYes (mFz (mAndV (mCall 1 p_is_moment (mCons (mFz (mVar 1)) mNil)) (mAndV (mCall 1 p_is_moment (mCons (mFz (mVar 2)) mNil)) (m2 (on2 (bV (gOrd .LtE))) (mVar 1) (mVar 2))))) [1, 2]) mNil))))
def p_are_shifts : List SV → Sto → Out SV := fnM 3 m_are_shifts
def m__law_own_deed : MS := (mSeq (mSet 1 (mB fLst (mCons (mC (.str "ash")) (mCons (mC (.str "bea")) (mCons (mC (.str "cid")) (mCons (mC (.str "dot")) (mCons (mC (.str "eli")) (mCons (mC (.str "fay")) mNil))))))))
  (mSeq (mPar [2, 3] (mCons (mCall 2 p__law_draw (mCons (mVar 0) (mCons (mC (.int 12)) mNil))) (mCons (m2 (on2 gIx) (mVar 1) (mCall 2 p__law_draw (mCons (mVar 0) (mCons (mC (.int 6)) mNil)))) mNil)))
  (mSeq (mSet 4 (mCall 2 p__law_draw (mCons (mVar 0) (mCons (mC (.int 30)) mNil))))
  (mSeq (mIfS (mT (m2 (on2 (bV (gOrd .Lt))) (mVar 2) (mC (.int 5)))) (mRet (mB fTup (mCons (mC (.str "come")) (mCons (mFz (mVar 3)) mNil)))) mSkip)
  (mSeq (mIfS (mT (m2 (on2 (bV (gOrd .Lt))) (mVar 2) (mC (.int 9)))) (mRet (mB fTup (mCons (mC (.str "go")) (mCons (mFz (mVar 3)) mNil)))) mSkip)
  (mRet (mIf (mT (m2 (on2 (bV (gOrd .Lt))) (mVar 2) (mC (.int 11)))) (mB fTup (mCons (mC (.str "wait")) (mCons (mFz (mVar 4)) mNil))) (mB fTup (mCons (mC (.str "shut")) mNil)))))))))
def p__law_own_deed : List SV → Sto → Out SV := fnM 5 m__law_own_deed
def m_deed_by : MS := (mSeq (mIfS (mT (m2 (on2 (bV (gOrd .Lt))) (mVar 0) (mC (.int 5)))) (mRet (mB fTup (mCons (mC (.str "come")) (mCons (mFz (mVar 1)) mNil)))) mSkip)
  (mSeq (mIfS (mT (m2 (on2 (bV (gOrd .Lt))) (mVar 0) (mC (.int 9)))) (mRet (mB fTup (mCons (mC (.str "go")) (mCons (mFz (mVar 1)) mNil)))) mSkip)
  (mRet (mIf (mT (m2 (on2 (bV (gOrd .Lt))) (mVar 0) (mC (.int 11)))) (mB fTup (mCons (mC (.str "wait")) (mCons (mFz (mVar 2)) mNil))) (mB fTup (mCons (mC (.str "shut")) mNil))))))
def p_deed_by : List SV → Sto → Out SV := fnM 3 m_deed_by
def m_deeds_of : MS := (mSeq (mPar [2, 3] (mCons (mMake "Draws" 2 p_Draws___init__ (mCons (mFz (mVar 0)) mNil)) (mCons (mB fLst mNil) mNil)))
  (mSeq (mFor (mRng1 (mCons (mFz (mVar 1)) mNil)) (gNm 4) (mSeq (mPar [5, 6] (mCons (mMeth "Draws" "take" 2 p_Draws_take (mVar 2) (mCons (mC (.int 12)) mNil)) (mCons (m2 (on2 gIx) (mC k_NAMES) (mMeth "Draws" "take" 2 p_Draws_take (mVar 2) (mCons (mB (a1 gLen) (mCons (mC k_NAMES) mNil)) mNil))) mNil)))
  (mDrop (mMt fApp (mVar 3) (mCons (mFz (mCall 3 p_deed_by (mCons (mFz (mVar 5)) (mCons (mFz (mVar 6)) (mCons (mFz (mMeth "Draws" "take" 2 p_Draws_take (mVar 2) (mCons (mC (.int 30)) mNil))) mNil))))) mNil)))))
  (mRet (mB (a1 gTupOf) (mCons (mVar 3) mNil)))))
def p_deeds_of : List SV → Sto → Out SV := fnM 7 m_deeds_of
def m_law : MS := (mSeq (mSet 1 (mCall 1 p__law_bag (mCons (mVar 0) mNil)))
  (mSeq (mFor (mRng1 (mCons (mC (.int 3)) mNil)) (gNm 2) (mSeq (mSet 3 (mCall 2 p__law_some (mCons (mVar 1) (mCons (mFz (mB fLst (mCons (mFz (mCall 2 p__law_take (mCons (mVar 1) (mCons (m2 (on2 gPow) (mC (.int 10)) (mC (.int 6))) mNil)))) (mCons (mFz (m2 (on2 gAdd) (m2 (on2 gPow) (mC (.int 10)) (mC (.int 20))) (mCall 2 p__law_take (mCons (mVar 1) (mCons (mC (.int 99)) mNil))))) (mCons (mC (.int 0)) (mCons (mC (.int 2147483647)) (mCons (mC (.int 2147483646)) mNil))))))) mNil))))
  (mSeq (mPar [4, 5] (mCons (mMake "Draws" 2 p_Draws___init__ (mCons (mFz (mVar 3)) mNil)) (mCons (mCall 1 p__law_begun (mCons (mFz (mVar 3)) mNil)) mNil)))
  (mSeq (mIfS (mT (m2 (on2 (bV gNe)) (mMeth "Draws" "state" 1 p_Draws_state (mVar 4) mNil) (m2 (on2 gIx) (mVar 5) (mC (.int 0))))) (mRet (mC (.bool false))) mSkip)
  (mSeq (mFor (mIt (mB fTup (mCons (mC (.int 10)) (mCons (mC (.int 1)) (mCons (mC (.int 7)) (mCons (mFz (m2 (on2 gAdd) (mC (.int 1)) (mCall 2 p__law_take (mCons (mVar 1) (mCons (m2 (on2 gPow) (mC (.int 10)) (mC (.int 6))) mNil))))) mNil)))))) (gNm 6) (mSeq (mSet 7 (mCall 2 p__law_draw (mCons (mVar 5) (mCons (mFz (mVar 6)) mNil))))
  (mIfS (mNot (mT (mCall 2 p__law_alike (mCons (mFz (mB fLst (mCons (mFz (mMeth "Draws" "take" 2 p_Draws_take (mVar 4) (mCons (mFz (mVar 6)) mNil))) (mCons (mFz (mMeth "Draws" "state" 1 p_Draws_state (mVar 4) mNil)) mNil)))) (mCons (mFz (mB fLst (mCons (mFz (mVar 7)) (mCons (m2 (on2 gIx) (mVar 5) (mC (.int 0))) mNil)))) mNil))))) (mRet (mC (.bool false))) mSkip)))
  (mSeq (mPar [6, 8] (mCons (m2 (on2 gAdd) (mC (.int 1)) (mCall 2 p__law_take (mCons (mVar 1) (mCons (mC (.int 10)) mNil)))) (mCons (m2 (on2 gAdd) (mC (.int 1)) (mCall 2 p__law_take (mCons (mVar 1) (mCons (mC (.int 999)) mNil)))) mNil)))
  (mSeq (mSet 9 (mCall 3 p_drawn_visits (mCons (mFz (mVar 3)) (mCons (mFz (mVar 6)) (mCons (mFz (mVar 8)) mNil)))))
  (mSeq (mIfS (mOr (mNot (mT (mCall 2 p__law_alike (mCons (mFz (mVar 9)) (mCons (mFz (mCall 3 p__law_own_visits (mCons (mFz (mVar 3)) (mCons (mFz (mVar 6)) (mCons (mFz (mVar 8)) mNil))))) mNil))))) (mT (m2 (on2 (bV gNe)) (mCall 2 p_checked_visits (mCons (mFz (mVar 6)) (mCons (mFz (mVar 9)) mNil))) (mVar 9)))) (mRet (mC (.bool false))) mSkip)
  (mSeq (mSet 10 (mCall 2 p_drawn_table (mCons (mFz (m2 (on2 gAdd) (mVar 3) (mC (.int 1)))) (mCons (mFz (mVar 6)) mNil))))
  (mSeq (mIfS (mOr (mNot (mT (mCall 2 p__law_alike (mCons (mFz (mVar 10)) (mCons (mFz (mCall 2 p__law_own_table (mCons (mFz (m2 (on2 gAdd) (mVar 3) (mC (.int 1)))) (mCons (mFz (mVar 6)) mNil)))) mNil))))) (mT (m2 (on2 (bV gNe)) (mCall 1 p_checked_table (mCons (mFz (mVar 10)) mNil)) (mVar 10)))) (mRet (mC (.bool false))) mSkip)
  (mSeq (mPar [11, 12] (mCons (mCall 2 p__law_take (mCons (mVar 1) (mCons (mC (.int 101)) mNil))) (mCons (mCall 2 p__law_take (mCons (mVar 1) (mCons (mC (.int 13)) mNil))) mNil)))
  (mSeq (mIfS (mNot (mT (mCall 2 p__law_alike (mCons (mFz (mB fLst (mCons (mFz (mCall 2 p_drawn_rank (mCons (mFz (m2 (on2 gAdd) (mVar 3) (mC (.int 2)))) (mCons (mFz (mVar 11)) mNil)))) (mCons (mFz (mCall 2 p_drawn_shifts (mCons (mFz (m2 (on2 gAdd) (mVar 3) (mC (.int 3)))) (mCons (mFz (mVar 12)) mNil)))) mNil)))) (mCons (mFz (mB fLst (mCons (mFz (mCall 2 p__law_own_rank (mCons (mFz (m2 (on2 gAdd) (mVar 3) (mC (.int 2)))) (mCons (mFz (mVar 11)) mNil)))) (mCons (mFz (mCall 2 p__law_own_shifts (mCons (mFz (m2 (on2 gAdd) (mVar 3) (mC (.int 3)))) (mCons (mFz (mVar 12)) mNil)))) mNil)))) mNil))))) (mRet (mC (.bool false))) mSkip)
  (mSeq (mIfS (mT (m2 (on2 (bV gNotN)) (mCall 1 p_are_shifts (mCons (mFz (mCall 2 p_drawn_shifts (mCons (mFz (m2 (on2 gAdd) (mVar 3) (mC (.int 3)))) (mCons (mFz (mVar 12)) mNil)))) mNil)) (mC (.bool true)))) (mRet (mC (.bool false))) mSkip)
  (mSeq (mPar [5, 7] (mCons (mCall 1 p__law_begun (mCons (mFz (m2 (on2 gAdd) (mVar 3) (mC (.int 4)))) mNil)) (mCons (mCall 2 p__law_some (mCons (mVar 1) (mCons (mFz (mB fLst (mCons (mC (.int 0)) (mCons (mC (.int 1)) (mCons (mC (.int 40)) (mCons (mC (.int 200)) mNil)))))) mNil))) mNil)))
  (mIfS (mNot (mT (mCall 2 p__law_alike (mCons (mFz (mCall 2 p_deeds_of (mCons (mFz (m2 (on2 gAdd) (mVar 3) (mC (.int 4)))) (mCons (mFz (mVar 7)) mNil)))) (mCons (mB (a1 gTupOf) (mCons (mLc (mRng1 (mCons (mFz (mVar 7)) mNil)) (gNm 13) mYes (mFz (mCall 1 p__law_own_deed (mCons (mVar 5) mNil))) [13]) mNil)) mNil))))) (mRet (mC (.bool false))) mSkip)))))))))))))))
  (mRet (mC (.bool true)))))
def p_law : List SV → Sto → Out SV := fnM 14 m_law
abbrev s__law_bag : Stmt := top 38
abbrev s__law_take : Stmt := top 39
abbrev s__law_some : Stmt := top 40
abbrev s__law_begun : Stmt := top 44
abbrev s_Draws___init__ : Stmt := inClass (top 22) 0
abbrev s_Draws_state : Stmt := inClass (top 22) 1
abbrev s__law_draw : Stmt := top 43
abbrev s__law_alike : Stmt := top 41
abbrev s_Draws_take : Stmt := inClass (top 22) 2
abbrev s_drawn_spans : Stmt := top 23
abbrev s_drawn_visits : Stmt := top 24
abbrev s__law_own_visits : Stmt := top 45
abbrev s_are_all : Stmt := top 7
abbrev s_is_integer : Stmt := top 6
abbrev s_are_integers : Stmt := top 8
abbrev s_is_pair : Stmt := top 9
abbrev s_are_pairs : Stmt := top 10
abbrev s_is_moment : Stmt := top 32
abbrev s_checked_visits : Stmt := top 33
abbrev s_all_couples : Stmt := top 15
abbrev s_drawn_table : Stmt := top 26
abbrev s__law_couples : Stmt := top 42
abbrev s__law_own_table : Stmt := top 46
abbrev s_couple_fault : Stmt := top 13
abbrev s_checked_table : Stmt := top 14
abbrev s__law_own_shifts : Stmt := top 48
abbrev s__law_own_rank : Stmt := top 47
abbrev s_drawn_shifts : Stmt := top 25
abbrev s_drawn_rank : Stmt := top 27
abbrev s_are_shifts : Stmt := top 36
abbrev s__law_own_deed : Stmt := top 49
abbrev s_deed_by : Stmt := top 28
abbrev s_deeds_of : Stmt := top 29
abbrev s_law : Stmt := top 50
structure Ad where
  f__law_bag : Addr
  d__law_bag : FuncData
  f__law_take : Addr
  d__law_take : FuncData
  f__law_some : Addr
  d__law_some : FuncData
  f__law_begun : Addr
  d__law_begun : FuncData
  f_Draws___init__ : Addr
  d_Draws___init__ : FuncData
  f_Draws_state : Addr
  d_Draws_state : FuncData
  f__law_draw : Addr
  d__law_draw : FuncData
  f__law_alike : Addr
  d__law_alike : FuncData
  f_Draws_take : Addr
  d_Draws_take : FuncData
  f_drawn_spans : Addr
  d_drawn_spans : FuncData
  f_drawn_visits : Addr
  d_drawn_visits : FuncData
  f__law_own_visits : Addr
  d__law_own_visits : FuncData
  f_are_all : Addr
  d_are_all : FuncData
  f_is_integer : Addr
  d_is_integer : FuncData
  f_are_integers : Addr
  d_are_integers : FuncData
  f_is_pair : Addr
  d_is_pair : FuncData
  f_are_pairs : Addr
  d_are_pairs : FuncData
  f_is_moment : Addr
  d_is_moment : FuncData
  f_checked_visits : Addr
  d_checked_visits : FuncData
  f_all_couples : Addr
  d_all_couples : FuncData
  f_drawn_table : Addr
  d_drawn_table : FuncData
  f__law_couples : Addr
  d__law_couples : FuncData
  f__law_own_table : Addr
  d__law_own_table : FuncData
  f_couple_fault : Addr
  d_couple_fault : FuncData
  f_checked_table : Addr
  d_checked_table : FuncData
  f__law_own_shifts : Addr
  d__law_own_shifts : FuncData
  f__law_own_rank : Addr
  d__law_own_rank : FuncData
  f_drawn_shifts : Addr
  d_drawn_shifts : FuncData
  f_drawn_rank : Addr
  d_drawn_rank : FuncData
  f_are_shifts : Addr
  d_are_shifts : FuncData
  f__law_own_deed : Addr
  d__law_own_deed : FuncData
  f_deed_by : Addr
  d_deed_by : FuncData
  f_deeds_of : Addr
  d_deeds_of : FuncData
  f_law : Addr
  d_law : FuncData
  c_Draws : Addr
def clOf (a : Ad) : Str → Option Addr := fun x => List.lookup x [(("Draws" : Str), a.c_Draws), (("is_integer" : Str), a.f_is_integer), (("is_pair" : Str), a.f_is_pair)]
structure Facts (K : PySem.W.Frag) (mg : Str → Option Value) (a : Ad) : Prop where
  F__law_bag : Fun K "_law_bag" "_law_bag" s__law_bag a.f__law_bag a.d__law_bag
  B__law_bag : Binds K a.d__law_bag ["script"] []
  G__law_bag : mg "_law_bag" = some (.ref a.f__law_bag)
  F__law_take : Fun K "_law_take" "_law_take" s__law_take a.f__law_take a.d__law_take
  B__law_take : Binds K a.d__law_take ["bag", "many"] []
  G__law_take : mg "_law_take" = some (.ref a.f__law_take)
  F__law_some : Fun K "_law_some" "_law_some" s__law_some a.f__law_some a.d__law_some
  B__law_some : Binds K a.d__law_some ["bag", "things"] []
  G__law_some : mg "_law_some" = some (.ref a.f__law_some)
  F__law_begun : Fun K "_law_begun" "_law_begun" s__law_begun a.f__law_begun a.d__law_begun
  B__law_begun : Binds K a.d__law_begun ["seed"] []
  G__law_begun : mg "_law_begun" = some (.ref a.f__law_begun)
  F_Draws___init__ : Fun K "__init__" "Draws.__init__" s_Draws___init__ a.f_Draws___init__ a.d_Draws___init__
  B_Draws___init__ : Binds K a.d_Draws___init__ ["self", "seed"] []
  F_Draws_state : Fun K "state" "Draws.state" s_Draws_state a.f_Draws_state a.d_Draws_state
  B_Draws_state : Binds K a.d_Draws_state ["self"] []
  M_Draws_state : Meth K a.c_Draws "state" a.f_Draws_state
  F__law_draw : Fun K "_law_draw" "_law_draw" s__law_draw a.f__law_draw a.d__law_draw
  B__law_draw : Binds K a.d__law_draw ["draws", "many"] []
  G__law_draw : mg "_law_draw" = some (.ref a.f__law_draw)
  F__law_alike : Fun K "_law_alike" "_law_alike" s__law_alike a.f__law_alike a.d__law_alike
  B__law_alike : Binds K a.d__law_alike ["found", "due"] []
  G__law_alike : mg "_law_alike" = some (.ref a.f__law_alike)
  F_Draws_take : Fun K "take" "Draws.take" s_Draws_take a.f_Draws_take a.d_Draws_take
  B_Draws_take : Binds K a.d_Draws_take ["self", "many"] []
  M_Draws_take : Meth K a.c_Draws "take" a.f_Draws_take
  F_drawn_spans : Fun K "drawn_spans" "drawn_spans" s_drawn_spans a.f_drawn_spans a.d_drawn_spans
  B_drawn_spans : Binds K a.d_drawn_spans ["seed", "many", "longest"] []
  G_drawn_spans : mg "drawn_spans" = some (.ref a.f_drawn_spans)
  F_drawn_visits : Fun K "drawn_visits" "drawn_visits" s_drawn_visits a.f_drawn_visits a.d_drawn_visits
  B_drawn_visits : Binds K a.d_drawn_visits ["seed", "many", "longest"] []
  G_drawn_visits : mg "drawn_visits" = some (.ref a.f_drawn_visits)
  F__law_own_visits : Fun K "_law_own_visits" "_law_own_visits" s__law_own_visits a.f__law_own_visits a.d__law_own_visits
  B__law_own_visits : Binds K a.d__law_own_visits ["seed", "many", "longest"] []
  G__law_own_visits : mg "_law_own_visits" = some (.ref a.f__law_own_visits)
  F_are_all : Fun K "are_all" "are_all" s_are_all a.f_are_all a.d_are_all
  B_are_all : Binds K a.d_are_all ["thing", "fits"] []
  G_are_all : mg "are_all" = some (.ref a.f_are_all)
  F_is_integer : Fun K "is_integer" "is_integer" s_is_integer a.f_is_integer a.d_is_integer
  B_is_integer : Binds K a.d_is_integer ["thing"] []
  G_is_integer : mg "is_integer" = some (.ref a.f_is_integer)
  F_are_integers : Fun K "are_integers" "are_integers" s_are_integers a.f_are_integers a.d_are_integers
  B_are_integers : Binds K a.d_are_integers ["thing"] []
  G_are_integers : mg "are_integers" = some (.ref a.f_are_integers)
  F_is_pair : Fun K "is_pair" "is_pair" s_is_pair a.f_is_pair a.d_is_pair
  B_is_pair : Binds K a.d_is_pair ["thing"] []
  G_is_pair : mg "is_pair" = some (.ref a.f_is_pair)
  F_are_pairs : Fun K "are_pairs" "are_pairs" s_are_pairs a.f_are_pairs a.d_are_pairs
  B_are_pairs : Binds K a.d_are_pairs ["thing"] []
  G_are_pairs : mg "are_pairs" = some (.ref a.f_are_pairs)
  F_is_moment : Fun K "is_moment" "is_moment" s_is_moment a.f_is_moment a.d_is_moment
  B_is_moment : Binds K a.d_is_moment ["thing"] []
  G_is_moment : mg "is_moment" = some (.ref a.f_is_moment)
  F_checked_visits : Fun K "checked_visits" "checked_visits" s_checked_visits a.f_checked_visits a.d_checked_visits
  B_checked_visits : Binds K a.d_checked_visits ["many", "thing"] []
  G_checked_visits : mg "checked_visits" = some (.ref a.f_checked_visits)
  F_all_couples : Fun K "all_couples" "all_couples" s_all_couples a.f_all_couples a.d_all_couples
  B_all_couples : Binds K a.d_all_couples ["many"] []
  G_all_couples : mg "all_couples" = some (.ref a.f_all_couples)
  F_drawn_table : Fun K "drawn_table" "drawn_table" s_drawn_table a.f_drawn_table a.d_drawn_table
  B_drawn_table : Binds K a.d_drawn_table ["seed", "many"] []
  G_drawn_table : mg "drawn_table" = some (.ref a.f_drawn_table)
  F__law_couples : Fun K "_law_couples" "_law_couples" s__law_couples a.f__law_couples a.d__law_couples
  B__law_couples : Binds K a.d__law_couples ["many"] []
  G__law_couples : mg "_law_couples" = some (.ref a.f__law_couples)
  F__law_own_table : Fun K "_law_own_table" "_law_own_table" s__law_own_table a.f__law_own_table a.d__law_own_table
  B__law_own_table : Binds K a.d__law_own_table ["seed", "many"] []
  G__law_own_table : mg "_law_own_table" = some (.ref a.f__law_own_table)
  F_couple_fault : Fun K "couple_fault" "couple_fault" s_couple_fault a.f_couple_fault a.d_couple_fault
  B_couple_fault : Binds K a.d_couple_fault ["many", "couple", "before"] []
  G_couple_fault : mg "couple_fault" = some (.ref a.f_couple_fault)
  F_checked_table : Fun K "checked_table" "checked_table" s_checked_table a.f_checked_table a.d_checked_table
  B_checked_table : Binds K a.d_checked_table ["thing"] []
  G_checked_table : mg "checked_table" = some (.ref a.f_checked_table)
  F__law_own_shifts : Fun K "_law_own_shifts" "_law_own_shifts" s__law_own_shifts a.f__law_own_shifts a.d__law_own_shifts
  B__law_own_shifts : Binds K a.d__law_own_shifts ["seed", "many"] []
  G__law_own_shifts : mg "_law_own_shifts" = some (.ref a.f__law_own_shifts)
  F__law_own_rank : Fun K "_law_own_rank" "_law_own_rank" s__law_own_rank a.f__law_own_rank a.d__law_own_rank
  B__law_own_rank : Binds K a.d__law_own_rank ["seed", "many"] []
  G__law_own_rank : mg "_law_own_rank" = some (.ref a.f__law_own_rank)
  F_drawn_shifts : Fun K "drawn_shifts" "drawn_shifts" s_drawn_shifts a.f_drawn_shifts a.d_drawn_shifts
  B_drawn_shifts : Binds K a.d_drawn_shifts ["seed", "many"] []
  G_drawn_shifts : mg "drawn_shifts" = some (.ref a.f_drawn_shifts)
  F_drawn_rank : Fun K "drawn_rank" "drawn_rank" s_drawn_rank a.f_drawn_rank a.d_drawn_rank
  B_drawn_rank : Binds K a.d_drawn_rank ["seed", "many"] []
  G_drawn_rank : mg "drawn_rank" = some (.ref a.f_drawn_rank)
  F_are_shifts : Fun K "are_shifts" "are_shifts" s_are_shifts a.f_are_shifts a.d_are_shifts
  B_are_shifts : Binds K a.d_are_shifts ["thing"] []
  G_are_shifts : mg "are_shifts" = some (.ref a.f_are_shifts)
  F__law_own_deed : Fun K "_law_own_deed" "_law_own_deed" s__law_own_deed a.f__law_own_deed a.d__law_own_deed
  B__law_own_deed : Binds K a.d__law_own_deed ["draws"] []
  G__law_own_deed : mg "_law_own_deed" = some (.ref a.f__law_own_deed)
  F_deed_by : Fun K "deed_by" "deed_by" s_deed_by a.f_deed_by a.d_deed_by
  B_deed_by : Binds K a.d_deed_by ["way", "name", "number"] []
  G_deed_by : mg "deed_by" = some (.ref a.f_deed_by)
  F_deeds_of : Fun K "deeds_of" "deeds_of" s_deeds_of a.f_deeds_of a.d_deeds_of
  B_deeds_of : Binds K a.d_deeds_of ["seed", "many"] []
  G_deeds_of : mg "deeds_of" = some (.ref a.f_deeds_of)
  F_law : Fun K "law" "law" s_law a.f_law a.d_law
  B_law : Binds K a.d_law ["script"] []
  G_law : mg "law" = some (.ref a.f_law)
  G_Draws : mg "Draws" = some (.ref a.c_Draws)
  K_Draws : Cls K a.c_Draws
  M_Draws : Mk K a.c_Draws a.f_Draws___init__
  A_Draws_its_state : NoAttr K a.c_Draws "its_state"
  N_abs : mg "abs" = none
  N_all : mg "all" = none
  N_bool : mg "bool" = none
  N_enumerate : mg "enumerate" = none
  N_int : mg "int" = none
  N_isinstance : mg "isinstance" = none
  N_len : mg "len" = none
  N_list : mg "list" = none
  N_range : mg "range" = none
  N_str : mg "str" = none
  N_tuple : mg "tuple" = none
  N_zip : mg "zip" = none
  C_CUT : GD K mg "CUT" k_CUT
  C_FACTOR : GD K mg "FACTOR" k_FACTOR
  C_MODULUS : GD K mg "MODULUS" k_MODULUS
  C_MOST_MOMENT : GD K mg "MOST_MOMENT" k_MOST_MOMENT
  C_MOST_PEOPLE : GD K mg "MOST_PEOPLE" k_MOST_PEOPLE
  C_MOST_SHIFTS : GD K mg "MOST_SHIFTS" k_MOST_SHIFTS
  C_NAMES : GD K mg "NAMES" k_NAMES
  C_SUMMAND : GD K mg "SUMMAND" k_SUMMAND
section
variable {P : Program} {w : World} {K : PySem.W.Frag} {mg : Str → Option Value} {base : Heap} {a : Ad}
theorem sc__law_bag : FnScope ["script", "cell"] ["script"] (defScope s__law_bag) := ⟨rfl, rfl, rfl, by decide +kernel, rfl, by decide +kernel, by decide +kernel⟩
theorem ok__law_bag (T : Facts K mg a) : FnM P w K mg base (clOf a) 1 a.f__law_bag a.d__law_bag ["script"] p__law_bag := by
  refine fnM_ok (N := ["script", "cell"]) T.F__law_bag sc__law_bag fun cdv A outer s H E hr => ?_
  have tk := takes_of (X := cxOf (L2.CX P w) P w K mg base ["script", "cell"] "_law_bag" (defScope s__law_bag) a.f__law_bag cdv A outer s H E) (E := E) rfl rfl rfl rfl
  have hp := passes_of (X := cxOf (L2.CX P w) P w K mg base ["script", "cell"] "_law_bag" (defScope s__law_bag) a.f__law_bag cdv A outer s H E) rfl
  exact (ss_one (ss_ret (se_lst (sa_cons se_int (sa_cons se_int (sa_cons se_int (sa_cons (se_fz (se_lc (own := [("cell", 1)]) rfl sc__law_bag.nd (si_seq (se_sl (ml := none) (mh := (some (mC (.int 63)))) (sv 0) rfl ⟨_, rfl, se_int⟩)) (blkOk_by (show blkC ["script", "cell"] (defScope s__law_bag) _ _ = true from by decide +kernel)) (fun _ _ _ _ _ => (sg_name (i := 1) sc__law_bag.nd rfl (by first | exact .inl rfl | exact .inr rfl) (by decide))) (fun _ _ _ _ _ => sts_nil) (fun _ _ _ _ _ => (se_callB cd_abs rfl T.N_abs (by decide +kernel) (sa_cons (sv 1) sa_nil))))) sa_nil)))))))
theorem sc__law_take : FnScope ["bag", "many", "cell", "stirred", "value", "begin", "second"] ["bag", "many"] (defScope s__law_take) := ⟨rfl, rfl, rfl, by decide +kernel, rfl, by decide +kernel, by decide +kernel⟩
theorem ok__law_take (T : Facts K mg a) : FnM P w K mg base (clOf a) 1 a.f__law_take a.d__law_take ["bag", "many"] p__law_take := by
  refine fnM_ok (N := ["bag", "many", "cell", "stirred", "value", "begin", "second"]) T.F__law_take sc__law_take fun cdv A outer s H E hr => ?_
  have tk := takes_of (X := cxOf (L2.CX P w) P w K mg base ["bag", "many", "cell", "stirred", "value", "begin", "second"] "_law_take" (defScope s__law_take) a.f__law_take cdv A outer s H E) (E := E) rfl rfl rfl rfl
  have hp := passes_of (X := cxOf (L2.CX P w) P w K mg base ["bag", "many", "cell", "stirred", "value", "begin", "second"] "_law_take" (defScope s__law_take) a.f__law_take cdv A outer s H E) rfl
  exact (ss_cons (ss_if (st_cmp (cmp_eq (hu64 hr)) (se_ix (sv 0) se_int) se_int (by rfl)) (ss_cons (ss_set (i := 2) sc__law_take.nd rfl (by first | exact .inl rfl | exact .inr rfl) (se_ix (se_add (se_sl (ml := (some (m2 (on2 gIx) (mVar 0) (mC (.int 2))))) (mh := none) (se_ix (sv 0) se_int) ⟨_, rfl, (se_ix (sv 0) se_int)⟩ rfl) (se_lst (sa_cons se_int sa_nil))) se_int))
  (ss_cons (ss_augIxAdd (sv 0) se_int se_int)
  (ss_cons (ss_if (st_cmp (cmp_ord (.inr (.inr (.inr rfl))) (hu64 hr)) (sv 2) (se_pow se_int se_int) (by rfl)) (ss_one (ss_setIx (se_fz (sv 2)) (sv 0) se_int)) ss_nil)
  (ss_cons (ss_set (i := 3) sc__law_take.nd rfl (by first | exact .inl rfl | exact .inr rfl) (se_add (se_add (se_mul (se_ix (sv 0) se_int) se_int) (se_mod (se_callT cd_int rfl T.N_int (by decide +kernel) (sa_cons (sv 2) sa_nil)) se_int)) (se_mul se_int (se_ix (sv 0) se_int))))
  (ss_one (ss_setIx (se_mod (se_callT cd_int rfl T.N_int (by decide +kernel) (sa_cons (sv 3) sa_nil)) se_int) (sv 0) se_int)))))) ss_nil)
  (ss_cons (ss_if (st_cmp (cmp_ord (.inr (.inr (.inl rfl))) (hu64 hr)) (se_ix (sv 0) se_int) se_int (by rfl)) (ss_cons (ss_set (i := 4) sc__law_take.nd rfl (by first | exact .inl rfl | exact .inr rfl) (se_mod (se_callT cd_int rfl T.N_int (by decide +kernel) (sa_cons (se_ix (sv 0) se_int) sa_nil)) (sv 1)))
  (ss_cons (ss_setIx (se_div (se_callT cd_int rfl T.N_int (by decide +kernel) (sa_cons (se_ix (sv 0) se_int) sa_nil)) (sv 1)) (sv 0) se_int)
  (ss_one (ss_ret (sv 4))))) ss_nil)
  (ss_cons (ss_set (i := 5) sc__law_take.nd rfl (by first | exact .inl rfl | exact .inr rfl) (se_mod (se_callT cd_int rfl T.N_int (by decide +kernel) (sa_cons (se_mul (se_add (se_ix (sv 0) se_int) se_int) se_int) sa_nil)) se_int))
  (ss_cons (ss_set (i := 6) sc__law_take.nd rfl (by first | exact .inl rfl | exact .inr rfl) (se_mod (se_callT cd_int rfl T.N_int (by decide +kernel) (sa_cons (se_mul (se_mod (se_callT cd_int rfl T.N_int (by decide +kernel) (sa_cons (se_mul (sv 5) (sv 5)) sa_nil)) se_int) se_int) sa_nil)) se_int))
  (ss_one (ss_ret (se_mod (se_callT cd_int rfl T.N_int (by decide +kernel) (sa_cons (se_div (sv 6) se_int) sa_nil)) (sv 1))))))))
theorem sc__law_some : FnScope ["bag", "things"] ["bag", "things"] (defScope s__law_some) := ⟨rfl, rfl, rfl, by decide +kernel, rfl, by decide +kernel, by decide +kernel⟩
theorem ok__law_some (T : Facts K mg a) : FnM P w K mg base (clOf a) 2 a.f__law_some a.d__law_some ["bag", "things"] p__law_some := by
  refine fnM_ok (N := ["bag", "things"]) T.F__law_some sc__law_some fun cdv A outer s H E hr => ?_
  have tk := takes_of (X := cxOf (L2.CX P w) P w K mg base ["bag", "things"] "_law_some" (defScope s__law_some) a.f__law_some cdv A outer s H E) (E := E) rfl rfl rfl rfl
  have hp := passes_of (X := cxOf (L2.CX P w) P w K mg base ["bag", "things"] "_law_some" (defScope s__law_some) a.f__law_some cdv A outer s H E) rfl
  exact (ss_one (ss_ret (se_ix (sv 1) (se_call tk (ok__law_take T) (hr.mono (by decide)) rfl T.G__law_take T.F__law_take.kp T.B__law_take (sa_cons (sv 0) (sa_cons (se_callB cd_len rfl T.N_len (by decide +kernel) (sa_cons (sv 1) sa_nil)) sa_nil))))))
theorem sc__law_begun : FnScope ["seed"] ["seed"] (defScope s__law_begun) := ⟨rfl, rfl, rfl, by decide +kernel, rfl, by decide +kernel, by decide +kernel⟩
theorem ok__law_begun (T : Facts K mg a) : FnM P w K mg base (clOf a) 1 a.f__law_begun a.d__law_begun ["seed"] p__law_begun := by
  refine fnM_ok (N := ["seed"]) T.F__law_begun sc__law_begun fun cdv A outer s H E hr => ?_
  have tk := takes_of (X := cxOf (L2.CX P w) P w K mg base ["seed"] "_law_begun" (defScope s__law_begun) a.f__law_begun cdv A outer s H E) (E := E) rfl rfl rfl rfl
  have hp := passes_of (X := cxOf (L2.CX P w) P w K mg base ["seed"] "_law_begun" (defScope s__law_begun) a.f__law_begun cdv A outer s H E) rfl
  exact (ss_one (ss_ret (se_lst (sa_cons (se_mod (se_callT cd_int rfl T.N_int (by decide +kernel) (sa_cons (sv 0) sa_nil)) se_int) sa_nil))))
theorem sc_Draws___init__ : FnScope ["self", "seed"] ["self", "seed"] (defScope s_Draws___init__) := ⟨rfl, rfl, rfl, by decide +kernel, rfl, by decide +kernel, by decide +kernel⟩
theorem ok_Draws___init__ (T : Facts K mg a) : FnM P w K mg base (clOf a) 1 a.f_Draws___init__ a.d_Draws___init__ ["self", "seed"] p_Draws___init__ := by
  refine fnM_ok (N := ["self", "seed"]) T.F_Draws___init__ sc_Draws___init__ fun cdv A outer s H E hr => ?_
  have tk := takes_of (X := cxOf (L2.CX P w) P w K mg base ["self", "seed"] "Draws.__init__" (defScope s_Draws___init__) a.f_Draws___init__ cdv A outer s H E) (E := E) rfl rfl rfl rfl
  have hp := passes_of (X := cxOf (L2.CX P w) P w K mg base ["self", "seed"] "Draws.__init__" (defScope s_Draws___init__) a.f_Draws___init__ cdv A outer s H E) rfl
  exact (ss_one (ss_setF "Draws" rfl T.K_Draws T.A_Draws_its_state (sv 0) (se_mod (sv 1) (se_globD rfl T.C_MODULUS))))
theorem sc_Draws_state : FnScope ["self"] ["self"] (defScope s_Draws_state) := ⟨rfl, rfl, rfl, by decide +kernel, rfl, by decide +kernel, by decide +kernel⟩
theorem ok_Draws_state (T : Facts K mg a) : FnM P w K mg base (clOf a) 1 a.f_Draws_state a.d_Draws_state ["self"] p_Draws_state := by
  refine fnM_ok (N := ["self"]) T.F_Draws_state sc_Draws_state fun cdv A outer s H E hr => ?_
  have tk := takes_of (X := cxOf (L2.CX P w) P w K mg base ["self"] "Draws.state" (defScope s_Draws_state) a.f_Draws_state cdv A outer s H E) (E := E) rfl rfl rfl rfl
  have hp := passes_of (X := cxOf (L2.CX P w) P w K mg base ["self"] "Draws.state" (defScope s_Draws_state) a.f_Draws_state cdv A outer s H E) rfl
  exact (ss_one (ss_ret (se_fld "Draws" rfl T.K_Draws T.A_Draws_its_state (sv 0))))
theorem sc__law_draw : FnScope ["draws", "many"] ["draws", "many"] (defScope s__law_draw) := ⟨rfl, rfl, rfl, by decide +kernel, rfl, by decide +kernel, by decide +kernel⟩
theorem ok__law_draw (T : Facts K mg a) : FnM P w K mg base (clOf a) 1 a.f__law_draw a.d__law_draw ["draws", "many"] p__law_draw := by
  refine fnM_ok (N := ["draws", "many"]) T.F__law_draw sc__law_draw fun cdv A outer s H E hr => ?_
  have tk := takes_of (X := cxOf (L2.CX P w) P w K mg base ["draws", "many"] "_law_draw" (defScope s__law_draw) a.f__law_draw cdv A outer s H E) (E := E) rfl rfl rfl rfl
  have hp := passes_of (X := cxOf (L2.CX P w) P w K mg base ["draws", "many"] "_law_draw" (defScope s__law_draw) a.f__law_draw cdv A outer s H E) rfl
  exact (ss_cons (ss_setIx (se_mod (se_callT cd_int rfl T.N_int (by decide +kernel) (sa_cons (se_add (se_mul (se_ix (sv 0) se_int) se_int) se_int) sa_nil)) se_int) (sv 0) se_int)
  (ss_one (ss_ret (se_mod (se_callT cd_int rfl T.N_int (by decide +kernel) (sa_cons (se_div (se_ix (sv 0) se_int) se_int) sa_nil)) (sv 1)))))
theorem sc__law_alike : FnScope ["found", "due", "pairs", "at", "one", "other"] ["found", "due"] (defScope s__law_alike) := ⟨rfl, rfl, rfl, by decide +kernel, rfl, by decide +kernel, by decide +kernel⟩
theorem ok__law_alike (T : Facts K mg a) : FnM P w K mg base (clOf a) 1 a.f__law_alike a.d__law_alike ["found", "due"] p__law_alike := by
  refine fnM_ok (N := ["found", "due", "pairs", "at", "one", "other"]) T.F__law_alike sc__law_alike fun cdv A outer s H E hr => ?_
  have tk := takes_of (X := cxOf (L2.CX P w) P w K mg base ["found", "due", "pairs", "at", "one", "other"] "_law_alike" (defScope s__law_alike) a.f__law_alike cdv A outer s H E) (E := E) rfl rfl rfl rfl
  have hp := passes_of (X := cxOf (L2.CX P w) P w K mg base ["found", "due", "pairs", "at", "one", "other"] "_law_alike" (defScope s__law_alike) a.f__law_alike cdv A outer s H E) rfl
  exact (ss_cons (ss_par (i := 2) (j := 3) rfl sc__law_alike.nd rfl rfl (by decide) rfl rfl (sa_cons (se_lst (sa_cons (se_tup (sa_cons (se_fz (sv 0)) (sa_cons (se_fz (sv 1)) sa_nil))) sa_nil)) (sa_cons se_int sa_nil)) (by rfl))
  (ss_cons (ss_while hp (st_cmp (cmp_ord (.inl rfl) (hu64 hr)) (sv 3) (se_callB cd_len rfl T.N_len (by decide +kernel) (sa_cons (sv 2) sa_nil)) (by rfl)) (ss_cons (ss_asg (vs := [4, 5]) (se_ix (sv 2) (sv 3)) (sg_tup rfl (sgs_cons (sg_name (i := 4) sc__law_alike.nd rfl (by first | exact .inl rfl | exact .inr rfl) (by decide)) (sgs_cons (sg_name (i := 5) sc__law_alike.nd rfl (by first | exact .inl rfl | exact .inr rfl) (by decide)) sgs_nil))))
  (ss_cons (ss_augAdd (i := 3) sc__law_alike.nd rfl (by first | exact .inl rfl | exact .inr rfl) se_int)
  (ss_cons (ss_if (st_bool (sw_or (st_cmp (cmp_ne (hu64 hr)) (se_isi tab_bool (sv 4) rfl T.N_isinstance boot_isinstance rfl T.N_bool (by decide +kernel)) (se_isi tab_bool (sv 5) rfl T.N_isinstance boot_isinstance rfl T.N_bool (by decide +kernel)) (by rfl)) (sw_or1 (st_cmp (cmp_ne (hu64 hr)) (se_isi tab_str (sv 4) rfl T.N_isinstance boot_isinstance rfl T.N_str (by decide +kernel)) (se_isi tab_str (sv 5) rfl T.N_isinstance boot_isinstance rfl T.N_str (by decide +kernel)) (by rfl))))) (ss_one (ss_ret se_bl)) ss_nil)
  (ss_cons (ss_if (st_cmp (cmp_ne (hu64 hr)) (se_isi2 tab_tuple tab_list (sv 4) rfl T.N_isinstance boot_isinstance rfl T.N_tuple (by decide +kernel) rfl T.N_list (by decide +kernel)) (se_isi2 tab_tuple tab_list (sv 5) rfl T.N_isinstance boot_isinstance rfl T.N_tuple (by decide +kernel) rfl T.N_list (by decide +kernel)) (by rfl)) (ss_one (ss_ret se_bl)) ss_nil)
  (ss_one (ss_if (st_val (se_isi2 tab_tuple tab_list (sv 4) rfl T.N_isinstance boot_isinstance rfl T.N_tuple (by decide +kernel) rfl T.N_list (by decide +kernel))) (ss_cons (ss_if (st_bool (sw_or (st_cmp (cmp_ne (hu64 hr)) (se_isi tab_tuple (sv 4) rfl T.N_isinstance boot_isinstance rfl T.N_tuple (by decide +kernel)) (se_isi tab_tuple (sv 5) rfl T.N_isinstance boot_isinstance rfl T.N_tuple (by decide +kernel)) (by rfl)) (sw_or1 (st_cmp (cmp_ne (hu64 hr)) (se_callB cd_len rfl T.N_len (by decide +kernel) (sa_cons (sv 4) sa_nil)) (se_callB cd_len rfl T.N_len (by decide +kernel) (sa_cons (sv 5) sa_nil)) (by rfl))))) (ss_one (ss_ret se_bl)) ss_nil)
  (ss_one (ss_expr (se_extend (sv 2) (sa_cons (se_zipL rfl rfl T.N_list rfl T.N_zip (sa_cons (sv 4) (sa_cons (sv 5) sa_nil))) sa_nil))))) (ss_one (ss_if (st_cmp (cmp_ne (hu64 hr)) (sv 4) (sv 5) (by rfl)) (ss_one (ss_ret se_bl)) ss_nil)))))))))
  (ss_one (ss_ret se_bl))))
theorem sc_Draws_take : FnScope ["self", "many"] ["self", "many"] (defScope s_Draws_take) := ⟨rfl, rfl, rfl, by decide +kernel, rfl, by decide +kernel, by decide +kernel⟩
theorem ok_Draws_take (T : Facts K mg a) : FnM P w K mg base (clOf a) 1 a.f_Draws_take a.d_Draws_take ["self", "many"] p_Draws_take := by
  refine fnM_ok (N := ["self", "many"]) T.F_Draws_take sc_Draws_take fun cdv A outer s H E hr => ?_
  have tk := takes_of (X := cxOf (L2.CX P w) P w K mg base ["self", "many"] "Draws.take" (defScope s_Draws_take) a.f_Draws_take cdv A outer s H E) (E := E) rfl rfl rfl rfl
  have hp := passes_of (X := cxOf (L2.CX P w) P w K mg base ["self", "many"] "Draws.take" (defScope s_Draws_take) a.f_Draws_take cdv A outer s H E) rfl
  exact (ss_cons (ss_setF "Draws" rfl T.K_Draws T.A_Draws_its_state (sv 0) (se_mod (se_add (se_mul (se_fld "Draws" rfl T.K_Draws T.A_Draws_its_state (sv 0)) (se_globD rfl T.C_FACTOR)) (se_globD rfl T.C_SUMMAND)) (se_globD rfl T.C_MODULUS)))
  (ss_one (ss_ret (se_mod (se_div (se_fld "Draws" rfl T.K_Draws T.A_Draws_its_state (sv 0)) (se_globD rfl T.C_CUT)) (sv 1)))))
theorem sc_drawn_spans : FnScope ["seed", "many", "longest", "draws", "found", "one", "come"] ["seed", "many", "longest"] (defScope s_drawn_spans) := ⟨rfl, rfl, rfl, by decide +kernel, rfl, by decide +kernel, by decide +kernel⟩
theorem ok_drawn_spans (T : Facts K mg a) : FnM P w K mg base (clOf a) 3 a.f_drawn_spans a.d_drawn_spans ["seed", "many", "longest"] p_drawn_spans := by
  refine fnM_ok (N := ["seed", "many", "longest", "draws", "found", "one", "come"]) T.F_drawn_spans sc_drawn_spans fun cdv A outer s H E hr => ?_
  have tk := takes_of (X := cxOf (L2.CX P w) P w K mg base ["seed", "many", "longest", "draws", "found", "one", "come"] "drawn_spans" (defScope s_drawn_spans) a.f_drawn_spans cdv A outer s H E) (E := E) rfl rfl rfl rfl
  have hp := passes_of (X := cxOf (L2.CX P w) P w K mg base ["seed", "many", "longest", "draws", "found", "one", "come"] "drawn_spans" (defScope s_drawn_spans) a.f_drawn_spans cdv A outer s H E) rfl
  exact (ss_cons (ss_par (i := 3) (j := 4) rfl sc_drawn_spans.nd rfl rfl (by decide) rfl rfl (sa_cons (se_make "Draws" tk rfl T.M_Draws (ok_Draws___init__ T) (hr.mono (by decide)) rfl T.G_Draws T.B_Draws___init__ (sa_cons (se_fz (sv 0)) sa_nil)) (sa_cons (se_lst sa_nil) sa_nil)) (by rfl))
  (ss_cons (ss_for (vs := [5]) hp rfl (si_rng1 rfl T.N_range (sa_cons (se_fz (sv 1)) sa_nil)) (sg_name (i := 5) sc_drawn_spans.nd rfl (by first | exact .inl rfl | exact .inr rfl) (by decide)) (ss_cons (ss_set (i := 6) sc_drawn_spans.nd rfl (by first | exact .inl rfl | exact .inr rfl) (se_meth "Draws" tk rfl T.K_Draws T.M_Draws_take (ok_Draws_take T) (hr.mono (by decide)) T.B_Draws_take (sv 3) (sa_cons se_int sa_nil)))
  (ss_one (ss_expr (se_append (sv 4) (sa_cons (se_tup (sa_cons (se_fz (sv 6)) (sa_cons (se_fz (se_add (sv 6) (se_meth "Draws" tk rfl T.K_Draws T.M_Draws_take (ok_Draws_take T) (hr.mono (by decide)) T.B_Draws_take (sv 3) (sa_cons (se_fz (sv 2)) sa_nil)))) sa_nil))) sa_nil))))))
  (ss_one (ss_ret (se_callT cd_tuple rfl T.N_tuple (by decide +kernel) (sa_cons (sv 4) sa_nil))))))
theorem sc_drawn_visits : FnScope ["seed", "many", "longest"] ["seed", "many", "longest"] (defScope s_drawn_visits) := ⟨rfl, rfl, rfl, by decide +kernel, rfl, by decide +kernel, by decide +kernel⟩
theorem ok_drawn_visits (T : Facts K mg a) : FnM P w K mg base (clOf a) 4 a.f_drawn_visits a.d_drawn_visits ["seed", "many", "longest"] p_drawn_visits := by
  refine fnM_ok (N := ["seed", "many", "longest"]) T.F_drawn_visits sc_drawn_visits fun cdv A outer s H E hr => ?_
  have tk := takes_of (X := cxOf (L2.CX P w) P w K mg base ["seed", "many", "longest"] "drawn_visits" (defScope s_drawn_visits) a.f_drawn_visits cdv A outer s H E) (E := E) rfl rfl rfl rfl
  have hp := passes_of (X := cxOf (L2.CX P w) P w K mg base ["seed", "many", "longest"] "drawn_visits" (defScope s_drawn_visits) a.f_drawn_visits cdv A outer s H E) rfl
  exact (ss_one (ss_ret (se_call tk (ok_drawn_spans T) (hr.mono (by decide)) rfl T.G_drawn_spans T.F_drawn_spans.kp T.B_drawn_spans (sa_cons (se_fz (sv 0)) (sa_cons (se_fz (sv 1)) (sa_cons (se_fz (sv 2)) sa_nil))))))
theorem sc__law_own_visits : FnScope ["seed", "many", "longest", "draws", "found", "one", "come"] ["seed", "many", "longest"] (defScope s__law_own_visits) := ⟨rfl, rfl, rfl, by decide +kernel, rfl, by decide +kernel, by decide +kernel⟩
theorem ok__law_own_visits (T : Facts K mg a) : FnM P w K mg base (clOf a) 2 a.f__law_own_visits a.d__law_own_visits ["seed", "many", "longest"] p__law_own_visits := by
  refine fnM_ok (N := ["seed", "many", "longest", "draws", "found", "one", "come"]) T.F__law_own_visits sc__law_own_visits fun cdv A outer s H E hr => ?_
  have tk := takes_of (X := cxOf (L2.CX P w) P w K mg base ["seed", "many", "longest", "draws", "found", "one", "come"] "_law_own_visits" (defScope s__law_own_visits) a.f__law_own_visits cdv A outer s H E) (E := E) rfl rfl rfl rfl
  have hp := passes_of (X := cxOf (L2.CX P w) P w K mg base ["seed", "many", "longest", "draws", "found", "one", "come"] "_law_own_visits" (defScope s__law_own_visits) a.f__law_own_visits cdv A outer s H E) rfl
  exact (ss_cons (ss_par (i := 3) (j := 4) rfl sc__law_own_visits.nd rfl rfl (by decide) rfl rfl (sa_cons (se_call tk (ok__law_begun T) (hr.mono (by decide)) rfl T.G__law_begun T.F__law_begun.kp T.B__law_begun (sa_cons (se_fz (sv 0)) sa_nil)) (sa_cons (se_lst sa_nil) sa_nil)) (by rfl))
  (ss_cons (ss_for (vs := [5]) hp rfl (si_rng1 rfl T.N_range (sa_cons (se_fz (sv 1)) sa_nil)) (sg_name (i := 5) sc__law_own_visits.nd rfl (by first | exact .inl rfl | exact .inr rfl) (by decide)) (ss_cons (ss_set (i := 6) sc__law_own_visits.nd rfl (by first | exact .inl rfl | exact .inr rfl) (se_call tk (ok__law_draw T) (hr.mono (by decide)) rfl T.G__law_draw T.F__law_draw.kp T.B__law_draw (sa_cons (sv 3) (sa_cons se_int sa_nil))))
  (ss_one (ss_expr (se_append (sv 4) (sa_cons (se_tup (sa_cons (se_fz (sv 6)) (sa_cons (se_fz (se_add (sv 6) (se_call tk (ok__law_draw T) (hr.mono (by decide)) rfl T.G__law_draw T.F__law_draw.kp T.B__law_draw (sa_cons (sv 3) (sa_cons (se_fz (sv 2)) sa_nil))))) sa_nil))) sa_nil))))))
  (ss_one (ss_ret (se_callT cd_tuple rfl T.N_tuple (by decide +kernel) (sa_cons (sv 4) sa_nil))))))
theorem sc_are_all : FnScope ["thing", "fits", "member"] ["thing", "fits"] (defScope s_are_all) := ⟨rfl, rfl, rfl, by decide +kernel, rfl, by decide +kernel, by decide +kernel⟩
theorem ok_are_all (T : Facts K mg a) {k : Nat} {Φ : Str → Option (List SV → Sto → Out SV)} (hΦ : Tab P w K mg base (clOf a) k 1 Φ) : FnM P w K mg base (clOf a) (k + 1) a.f_are_all a.d_are_all ["thing", "fits"] (p_are_all Φ) := by
  refine fnM_ok (N := ["thing", "fits", "member"]) T.F_are_all sc_are_all fun cdv A outer s H E hr => ?_
  have tk := takes_of (X := cxOf (L2.CX P w) P w K mg base ["thing", "fits", "member"] "are_all" (defScope s_are_all) a.f_are_all cdv A outer s H E) (E := E) rfl rfl rfl rfl
  have hp := passes_of (X := cxOf (L2.CX P w) P w K mg base ["thing", "fits", "member"] "are_all" (defScope s_are_all) a.f_are_all cdv A outer s H E) rfl
  exact (ss_one (ss_ret (se_and (se_isi tab_tuple (sv 0) rfl T.N_isinstance boot_isinstance rfl T.N_tuple (by decide +kernel)) (se_one (se_callB (cd_all rfl) rfl T.N_all (by decide +kernel) (sa_cons (se_lc (own := [("member", 2)]) rfl sc_are_all.nd (si_seq (sv 0)) (blkOk_by (show blkC ["thing", "fits", "member"] (defScope s_are_all) _ _ = true from by decide +kernel)) (fun _ _ _ _ _ => (sg_name (i := 2) sc_are_all.nd rfl (by first | exact .inl rfl | exact .inr rfl) (by decide))) (fun _ _ _ _ _ => sts_nil) (fun _ _ _ _ _ => (se_fz (se_callV takes0 hΦ hr (i := 1) rfl (by first | exact Or.inl rfl | exact Or.inr (Or.inl rfl) | exact Or.inr (Or.inr rfl)) (sa_cons (se_fz (sv 2)) sa_nil))))) sa_nil))))))
theorem sc_is_integer : FnScope ["thing"] ["thing"] (defScope s_is_integer) := ⟨rfl, rfl, rfl, by decide +kernel, rfl, by decide +kernel, by decide +kernel⟩
theorem ok_is_integer (T : Facts K mg a) : FnM P w K mg base (clOf a) 1 a.f_is_integer a.d_is_integer ["thing"] p_is_integer := by
  refine fnM_ok (N := ["thing"]) T.F_is_integer sc_is_integer fun cdv A outer s H E hr => ?_
  have tk := takes_of (X := cxOf (L2.CX P w) P w K mg base ["thing"] "is_integer" (defScope s_is_integer) a.f_is_integer cdv A outer s H E) (E := E) rfl rfl rfl rfl
  have hp := passes_of (X := cxOf (L2.CX P w) P w K mg base ["thing"] "is_integer" (defScope s_is_integer) a.f_is_integer cdv A outer s H E) rfl
  exact (ss_one (ss_ret (se_and (se_isi tab_int (sv 0) rfl T.N_isinstance boot_isinstance rfl T.N_int (by decide +kernel)) (se_one (se_not (se_isi tab_bool (sv 0) rfl T.N_isinstance boot_isinstance rfl T.N_bool (by decide +kernel)))))))
theorem sc_are_integers : FnScope ["thing"] ["thing"] (defScope s_are_integers) := ⟨rfl, rfl, rfl, by decide +kernel, rfl, by decide +kernel, by decide +kernel⟩
theorem ok_are_integers (T : Facts K mg a) : FnM P w K mg base (clOf a) 3 a.f_are_integers a.d_are_integers ["thing"] p_are_integers := by
  refine fnM_ok (N := ["thing"]) T.F_are_integers sc_are_integers fun cdv A outer s H E hr => ?_
  have tk := takes_of (X := cxOf (L2.CX P w) P w K mg base ["thing"] "are_integers" (defScope s_are_integers) a.f_are_integers cdv A outer s H E) (E := E) rfl rfl rfl rfl
  have hp := passes_of (X := cxOf (L2.CX P w) P w K mg base ["thing"] "are_integers" (defScope s_are_integers) a.f_are_integers cdv A outer s H E) rfl
  exact (ss_one (ss_ret (se_call tk (ok_are_all T (tab1_ok (cl := clOf a) (x := "is_integer") rfl (ok_is_integer T) T.F_is_integer.kp T.B_is_integer)) (hr.mono (by decide)) rfl T.G_are_all T.F_are_all.kp T.B_are_all (sa_cons (se_fz (sv 0)) (sa_cons (se_fz (se_fn rfl T.G_is_integer rfl)) sa_nil)))))
theorem sc_is_pair : FnScope ["thing"] ["thing"] (defScope s_is_pair) := ⟨rfl, rfl, rfl, by decide +kernel, rfl, by decide +kernel, by decide +kernel⟩
theorem ok_is_pair (T : Facts K mg a) : FnM P w K mg base (clOf a) 4 a.f_is_pair a.d_is_pair ["thing"] p_is_pair := by
  refine fnM_ok (N := ["thing"]) T.F_is_pair sc_is_pair fun cdv A outer s H E hr => ?_
  have tk := takes_of (X := cxOf (L2.CX P w) P w K mg base ["thing"] "is_pair" (defScope s_is_pair) a.f_is_pair cdv A outer s H E) (E := E) rfl rfl rfl rfl
  have hp := passes_of (X := cxOf (L2.CX P w) P w K mg base ["thing"] "is_pair" (defScope s_is_pair) a.f_is_pair cdv A outer s H E) rfl
  exact (ss_one (ss_ret (se_and (se_call tk (ok_are_integers T) (hr.mono (by decide)) rfl T.G_are_integers T.F_are_integers.kp T.B_are_integers (sa_cons (se_fz (sv 0)) sa_nil)) (se_one (se_cmp (cmp_eq (hu64 hr)) (se_callB cd_len rfl T.N_len (by decide +kernel) (sa_cons (sv 0) sa_nil)) se_int (by rfl))))))
theorem sc_are_pairs : FnScope ["thing"] ["thing"] (defScope s_are_pairs) := ⟨rfl, rfl, rfl, by decide +kernel, rfl, by decide +kernel, by decide +kernel⟩
theorem ok_are_pairs (T : Facts K mg a) : FnM P w K mg base (clOf a) 6 a.f_are_pairs a.d_are_pairs ["thing"] p_are_pairs := by
  refine fnM_ok (N := ["thing"]) T.F_are_pairs sc_are_pairs fun cdv A outer s H E hr => ?_
  have tk := takes_of (X := cxOf (L2.CX P w) P w K mg base ["thing"] "are_pairs" (defScope s_are_pairs) a.f_are_pairs cdv A outer s H E) (E := E) rfl rfl rfl rfl
  have hp := passes_of (X := cxOf (L2.CX P w) P w K mg base ["thing"] "are_pairs" (defScope s_are_pairs) a.f_are_pairs cdv A outer s H E) rfl
  exact (ss_one (ss_ret (se_call tk (ok_are_all T (tab1_ok (cl := clOf a) (x := "is_pair") rfl (ok_is_pair T) T.F_is_pair.kp T.B_is_pair)) (hr.mono (by decide)) rfl T.G_are_all T.F_are_all.kp T.B_are_all (sa_cons (se_fz (sv 0)) (sa_cons (se_fz (se_fn rfl T.G_is_pair rfl)) sa_nil)))))
theorem sc_is_moment : FnScope ["thing"] ["thing"] (defScope s_is_moment) := ⟨rfl, rfl, rfl, by decide +kernel, rfl, by decide +kernel, by decide +kernel⟩
theorem ok_is_moment (T : Facts K mg a) : FnM P w K mg base (clOf a) 1 a.f_is_moment a.d_is_moment ["thing"] p_is_moment := by
  refine fnM_ok (N := ["thing"]) T.F_is_moment sc_is_moment fun cdv A outer s H E hr => ?_
  have tk := takes_of (X := cxOf (L2.CX P w) P w K mg base ["thing"] "is_moment" (defScope s_is_moment) a.f_is_moment cdv A outer s H E) (E := E) rfl rfl rfl rfl
  have hp := passes_of (X := cxOf (L2.CX P w) P w K mg base ["thing"] "is_moment" (defScope s_is_moment) a.f_is_moment cdv A outer s H E) rfl
  exact (ss_one (ss_ret (se_chain (cmp_ord (.inr (.inl rfl)) (hu64 hr)) (cmp_ord (.inr (.inl rfl)) (hu64 hr)) (se_sub se_int (se_globD rfl T.C_MOST_MOMENT)) (sv 0) (se_globD rfl T.C_MOST_MOMENT))))
theorem sc_checked_visits : FnScope ["many", "thing", "one", "come", "go"] ["many", "thing"] (defScope s_checked_visits) := ⟨rfl, rfl, rfl, by decide +kernel, rfl, by decide +kernel, by decide +kernel⟩
theorem ok_checked_visits (T : Facts K mg a) : FnM P w K mg base (clOf a) 7 a.f_checked_visits a.d_checked_visits ["many", "thing"] p_checked_visits := by
  refine fnM_ok (N := ["many", "thing", "one", "come", "go"]) T.F_checked_visits sc_checked_visits fun cdv A outer s H E hr => ?_
  have tk := takes_of (X := cxOf (L2.CX P w) P w K mg base ["many", "thing", "one", "come", "go"] "checked_visits" (defScope s_checked_visits) a.f_checked_visits cdv A outer s H E) (E := E) rfl rfl rfl rfl
  have hp := passes_of (X := cxOf (L2.CX P w) P w K mg base ["many", "thing", "one", "come", "go"] "checked_visits" (defScope s_checked_visits) a.f_checked_visits cdv A outer s H E) rfl
  exact (ss_cons (ss_if (st_not (st_val (se_call tk (ok_are_pairs T) (hr.mono (by decide)) rfl T.G_are_pairs T.F_are_pairs.kp T.B_are_pairs (sa_cons (se_fz (sv 1)) sa_nil)))) (ss_one ss_bad) ss_nil)
  (ss_cons (ss_if (st_cmp (cmp_ne (hu64 hr)) (se_callB cd_len rfl T.N_len (by decide +kernel) (sa_cons (sv 1) sa_nil)) (sv 0) (by rfl)) (ss_one ss_bad) ss_nil)
  (ss_cons (ss_for (vs := [2, 3, 4]) hp rfl (si_enum rfl T.N_enumerate (sv 1)) (sg_tup rfl (sgs_cons (sg_name (i := 2) sc_checked_visits.nd rfl (by first | exact .inl rfl | exact .inr rfl) (by decide)) (sgs_cons (sg_tup rfl (sgs_cons (sg_name (i := 3) sc_checked_visits.nd rfl (by first | exact .inl rfl | exact .inr rfl) (by decide)) (sgs_cons (sg_name (i := 4) sc_checked_visits.nd rfl (by first | exact .inl rfl | exact .inr rfl) (by decide)) sgs_nil))) sgs_nil))) (ss_cons (ss_if (st_bool (sw_or (st_not (st_val (se_call tk (ok_is_moment T) (hr.mono (by decide)) rfl T.G_is_moment T.F_is_moment.kp T.B_is_moment (sa_cons (se_fz (sv 3)) sa_nil)))) (sw_or1 (st_not (st_val (se_call tk (ok_is_moment T) (hr.mono (by decide)) rfl T.G_is_moment T.F_is_moment.kp T.B_is_moment (sa_cons (se_fz (sv 4)) sa_nil))))))) (ss_one ss_bad) ss_nil)
  (ss_one (ss_if (st_cmp (cmp_ord (.inr (.inr (.inl rfl))) (hu64 hr)) (sv 3) (sv 4) (by rfl)) (ss_one ss_bad) ss_nil))))
  (ss_one (ss_ret (sv 1))))))
theorem sc_all_couples : FnScope ["many", "a", "b"] ["many"] (defScope s_all_couples) := ⟨rfl, rfl, rfl, by decide +kernel, rfl, by decide +kernel, by decide +kernel⟩
theorem ok_all_couples (T : Facts K mg a) : FnM P w K mg base (clOf a) 1 a.f_all_couples a.d_all_couples ["many"] p_all_couples := by
  refine fnM_ok (N := ["many", "a", "b"]) T.F_all_couples sc_all_couples fun cdv A outer s H E hr => ?_
  have tk := takes_of (X := cxOf (L2.CX P w) P w K mg base ["many", "a", "b"] "all_couples" (defScope s_all_couples) a.f_all_couples cdv A outer s H E) (E := E) rfl rfl rfl rfl
  have hp := passes_of (X := cxOf (L2.CX P w) P w K mg base ["many", "a", "b"] "all_couples" (defScope s_all_couples) a.f_all_couples cdv A outer s H E) rfl
  exact (ss_one (ss_ret (se_lc2 (own := [("a", 1), ("b", 2)]) (vs1 := [2]) rfl sc_all_couples.nd (si_rng1 rfl T.N_range (sa_cons (se_fz (sv 0)) sa_nil)) (blkOk_by (show blkC ["many", "a", "b"] (defScope s_all_couples) _ _ = true from by decide +kernel)) (by decide) (fun _ _ _ _ _ => (sg_name (i := 1) sc_all_couples.nd rfl (by first | exact .inl rfl | exact .inr rfl) (by decide))) (fun _ _ _ _ _ => sts_nil) (fun _ _ _ _ _ => (si_rng2 rfl T.N_range (sa_cons (se_fz (se_add (sv 1) se_int)) (sa_cons (se_fz (sv 0)) sa_nil)))) (fun _ _ _ _ _ => (sg_name (i := 2) sc_all_couples.nd rfl (by first | exact .inl rfl | exact .inr rfl) (by decide))) (fun _ _ _ _ _ => sts_nil) (fun _ _ _ _ _ => (se_tup (sa_cons (se_fz (sv 1)) (sa_cons (se_fz (sv 2)) sa_nil)))))))
theorem sc_drawn_table : FnScope ["seed", "many", "draws", "couple"] ["seed", "many"] (defScope s_drawn_table) := ⟨rfl, rfl, rfl, by decide +kernel, rfl, by decide +kernel, by decide +kernel⟩
theorem ok_drawn_table (T : Facts K mg a) : FnM P w K mg base (clOf a) 3 a.f_drawn_table a.d_drawn_table ["seed", "many"] p_drawn_table := by
  refine fnM_ok (N := ["seed", "many", "draws", "couple"]) T.F_drawn_table sc_drawn_table fun cdv A outer s H E hr => ?_
  have tk := takes_of (X := cxOf (L2.CX P w) P w K mg base ["seed", "many", "draws", "couple"] "drawn_table" (defScope s_drawn_table) a.f_drawn_table cdv A outer s H E) (E := E) rfl rfl rfl rfl
  have hp := passes_of (X := cxOf (L2.CX P w) P w K mg base ["seed", "many", "draws", "couple"] "drawn_table" (defScope s_drawn_table) a.f_drawn_table cdv A outer s H E) rfl
  exact (ss_cons (ss_set (i := 2) sc_drawn_table.nd rfl (by first | exact .inl rfl | exact .inr rfl) (se_make "Draws" tk rfl T.M_Draws (ok_Draws___init__ T) (hr.mono (by decide)) rfl T.G_Draws T.B_Draws___init__ (sa_cons (se_fz (sv 0)) sa_nil)))
  (ss_one (ss_ret (se_tup (sa_cons (se_fz (sv 1)) (sa_cons (se_callT cd_tuple rfl T.N_tuple (by decide +kernel) (sa_cons (se_lc (own := [("couple", 3)]) rfl sc_drawn_table.nd (si_seq (se_call tk (ok_all_couples T) (hr.mono (by decide)) rfl T.G_all_couples T.F_all_couples.kp T.B_all_couples (sa_cons (se_fz (sv 1)) sa_nil))) (blkOk_by (show blkC ["seed", "many", "draws", "couple"] (defScope s_drawn_table) _ _ = true from by decide +kernel)) (fun _ _ _ _ _ => (sg_name (i := 3) sc_drawn_table.nd rfl (by first | exact .inl rfl | exact .inr rfl) (by decide))) (fun _ _ _ _ _ => (sts_one (st_cmp (cmp_ord (.inl rfl) (hu64 hr)) (se_meth "Draws" takes0 rfl T.K_Draws T.M_Draws_take (ok_Draws_take T) (hr.mono (by decide)) T.B_Draws_take (sv 2) (sa_cons se_int sa_nil)) se_int (by rfl)))) (fun _ _ _ _ _ => (se_fz (sv 3)))) sa_nil)) sa_nil))))))
theorem sc__law_couples : FnScope ["many", "found", "a", "b"] ["many"] (defScope s__law_couples) := ⟨rfl, rfl, rfl, by decide +kernel, rfl, by decide +kernel, by decide +kernel⟩
theorem ok__law_couples (T : Facts K mg a) : FnM P w K mg base (clOf a) 1 a.f__law_couples a.d__law_couples ["many"] p__law_couples := by
  refine fnM_ok (N := ["many", "found", "a", "b"]) T.F__law_couples sc__law_couples fun cdv A outer s H E hr => ?_
  have tk := takes_of (X := cxOf (L2.CX P w) P w K mg base ["many", "found", "a", "b"] "_law_couples" (defScope s__law_couples) a.f__law_couples cdv A outer s H E) (E := E) rfl rfl rfl rfl
  have hp := passes_of (X := cxOf (L2.CX P w) P w K mg base ["many", "found", "a", "b"] "_law_couples" (defScope s__law_couples) a.f__law_couples cdv A outer s H E) rfl
  exact (ss_cons (ss_set (i := 1) sc__law_couples.nd rfl (by first | exact .inl rfl | exact .inr rfl) (se_lst sa_nil))
  (ss_cons (ss_for (vs := [2]) hp rfl (si_rng1 rfl T.N_range (sa_cons (se_fz (sv 0)) sa_nil)) (sg_name (i := 2) sc__law_couples.nd rfl (by first | exact .inl rfl | exact .inr rfl) (by decide)) (ss_one (ss_expr (se_extend (sv 1) (sa_cons (se_lc (own := [("b", 3)]) rfl sc__law_couples.nd (si_rng2 rfl T.N_range (sa_cons (se_fz (se_add (sv 2) se_int)) (sa_cons (se_fz (sv 0)) sa_nil))) (blkOk_by (show blkC ["many", "found", "a", "b"] (defScope s__law_couples) _ _ = true from by decide +kernel)) (fun _ _ _ _ _ => (sg_name (i := 3) sc__law_couples.nd rfl (by first | exact .inl rfl | exact .inr rfl) (by decide))) (fun _ _ _ _ _ => sts_nil) (fun _ _ _ _ _ => (se_tup (sa_cons (se_fz (sv 2)) (sa_cons (se_fz (sv 3)) sa_nil))))) sa_nil)))))
  (ss_one (ss_ret (sv 1)))))
theorem sc__law_own_table : FnScope ["seed", "many", "draws", "couple"] ["seed", "many"] (defScope s__law_own_table) := ⟨rfl, rfl, rfl, by decide +kernel, rfl, by decide +kernel, by decide +kernel⟩
theorem ok__law_own_table (T : Facts K mg a) : FnM P w K mg base (clOf a) 2 a.f__law_own_table a.d__law_own_table ["seed", "many"] p__law_own_table := by
  refine fnM_ok (N := ["seed", "many", "draws", "couple"]) T.F__law_own_table sc__law_own_table fun cdv A outer s H E hr => ?_
  have tk := takes_of (X := cxOf (L2.CX P w) P w K mg base ["seed", "many", "draws", "couple"] "_law_own_table" (defScope s__law_own_table) a.f__law_own_table cdv A outer s H E) (E := E) rfl rfl rfl rfl
  have hp := passes_of (X := cxOf (L2.CX P w) P w K mg base ["seed", "many", "draws", "couple"] "_law_own_table" (defScope s__law_own_table) a.f__law_own_table cdv A outer s H E) rfl
  exact (ss_cons (ss_set (i := 2) sc__law_own_table.nd rfl (by first | exact .inl rfl | exact .inr rfl) (se_call tk (ok__law_begun T) (hr.mono (by decide)) rfl T.G__law_begun T.F__law_begun.kp T.B__law_begun (sa_cons (se_fz (sv 0)) sa_nil)))
  (ss_one (ss_ret (se_tup (sa_cons (se_fz (sv 1)) (sa_cons (se_callT cd_tuple rfl T.N_tuple (by decide +kernel) (sa_cons (se_lc (own := [("couple", 3)]) rfl sc__law_own_table.nd (si_seq (se_call tk (ok__law_couples T) (hr.mono (by decide)) rfl T.G__law_couples T.F__law_couples.kp T.B__law_couples (sa_cons (se_fz (sv 1)) sa_nil))) (blkOk_by (show blkC ["seed", "many", "draws", "couple"] (defScope s__law_own_table) _ _ = true from by decide +kernel)) (fun _ _ _ _ _ => (sg_name (i := 3) sc__law_own_table.nd rfl (by first | exact .inl rfl | exact .inr rfl) (by decide))) (fun _ _ _ _ _ => (sts_one (st_cmp (cmp_ord (.inl rfl) (hu64 hr)) (se_call takes0 (ok__law_draw T) (hr.mono (by decide)) rfl T.G__law_draw T.F__law_draw.kp T.B__law_draw (sa_cons (sv 2) (sa_cons se_int sa_nil))) se_int (by rfl)))) (fun _ _ _ _ _ => (se_fz (sv 3)))) sa_nil)) sa_nil))))))
theorem sc_couple_fault : FnScope ["many", "couple", "before", "a", "b"] ["many", "couple", "before"] (defScope s_couple_fault) := ⟨rfl, rfl, rfl, by decide +kernel, rfl, by decide +kernel, by decide +kernel⟩
theorem ok_couple_fault (T : Facts K mg a) : FnM P w K mg base (clOf a) 1 a.f_couple_fault a.d_couple_fault ["many", "couple", "before"] p_couple_fault := by
  refine fnM_ok (N := ["many", "couple", "before", "a", "b"]) T.F_couple_fault sc_couple_fault fun cdv A outer s H E hr => ?_
  have tk := takes_of (X := cxOf (L2.CX P w) P w K mg base ["many", "couple", "before", "a", "b"] "couple_fault" (defScope s_couple_fault) a.f_couple_fault cdv A outer s H E) (E := E) rfl rfl rfl rfl
  have hp := passes_of (X := cxOf (L2.CX P w) P w K mg base ["many", "couple", "before", "a", "b"] "couple_fault" (defScope s_couple_fault) a.f_couple_fault cdv A outer s H E) rfl
  exact (ss_cons (ss_asg (vs := [3, 4]) (sv 1) (sg_tup rfl (sgs_cons (sg_name (i := 3) sc_couple_fault.nd rfl (by first | exact .inl rfl | exact .inr rfl) (by decide)) (sgs_cons (sg_name (i := 4) sc_couple_fault.nd rfl (by first | exact .inl rfl | exact .inr rfl) (by decide)) sgs_nil))))
  (ss_cons (ss_if (st_not (st_chain3 (cmp_ord (.inr (.inl rfl)) (hu64 hr)) (cmp_ord (.inl rfl) (hu64 hr)) (cmp_ord (.inl rfl) (hu64 hr)) se_int (sv 3) (sv 4) (sv 0))) (ss_one (ss_ret se_str)) ss_nil)
  (ss_one (ss_ret (se_if (st_bool (sw_and (st_val (sv 2)) (sw_and1 (st_cmp (cmp_ord (.inr (.inl rfl)) (hu64 hr)) (sv 1) (se_ix (sv 2) (se_neg se_int)) (by rfl))))) se_str se_non)))))
theorem sc_checked_table : FnScope ["thing", "many", "met", "index", "couple", "fault"] ["thing"] (defScope s_checked_table) := ⟨rfl, rfl, rfl, by decide +kernel, rfl, by decide +kernel, by decide +kernel⟩
theorem ok_checked_table (T : Facts K mg a) : FnM P w K mg base (clOf a) 7 a.f_checked_table a.d_checked_table ["thing"] p_checked_table := by
  refine fnM_ok (N := ["thing", "many", "met", "index", "couple", "fault"]) T.F_checked_table sc_checked_table fun cdv A outer s H E hr => ?_
  have tk := takes_of (X := cxOf (L2.CX P w) P w K mg base ["thing", "many", "met", "index", "couple", "fault"] "checked_table" (defScope s_checked_table) a.f_checked_table cdv A outer s H E) (E := E) rfl rfl rfl rfl
  have hp := passes_of (X := cxOf (L2.CX P w) P w K mg base ["thing", "many", "met", "index", "couple", "fault"] "checked_table" (defScope s_checked_table) a.f_checked_table cdv A outer s H E) rfl
  exact (ss_cons (ss_if (st_bool (sw_or (st_not (st_val (se_isi tab_tuple (sv 0) rfl T.N_isinstance boot_isinstance rfl T.N_tuple (by decide +kernel)))) (sw_or (st_cmp (cmp_ne (hu64 hr)) (se_callB cd_len rfl T.N_len (by decide +kernel) (sa_cons (sv 0) sa_nil)) se_int (by rfl)) (sw_or (st_not (st_val (se_call tk (ok_is_integer T) (hr.mono (by decide)) rfl T.G_is_integer T.F_is_integer.kp T.B_is_integer (sa_cons (se_ix (sv 0) se_int) sa_nil)))) (sw_or1 (st_not (st_val (se_call tk (ok_are_pairs T) (hr.mono (by decide)) rfl T.G_are_pairs T.F_are_pairs.kp T.B_are_pairs (sa_cons (se_ix (sv 0) se_int) sa_nil))))))))) (ss_one ss_bad) ss_nil)
  (ss_cons (ss_asg (vs := [1, 2]) (sv 0) (sg_tup rfl (sgs_cons (sg_name (i := 1) sc_checked_table.nd rfl (by first | exact .inl rfl | exact .inr rfl) (by decide)) (sgs_cons (sg_name (i := 2) sc_checked_table.nd rfl (by first | exact .inl rfl | exact .inr rfl) (by decide)) sgs_nil))))
  (ss_cons (ss_if (st_not (st_chain (cmp_ord (.inr (.inl rfl)) (hu64 hr)) (cmp_ord (.inr (.inl rfl)) (hu64 hr)) se_int (sv 1) (se_globD rfl T.C_MOST_PEOPLE))) (ss_one ss_bad) ss_nil)
  (ss_cons (ss_for (vs := [3, 4]) hp rfl (si_enum rfl T.N_enumerate (sv 2)) (sg_tup rfl (sgs_cons (sg_name (i := 3) sc_checked_table.nd rfl (by first | exact .inl rfl | exact .inr rfl) (by decide)) (sgs_cons (sg_name (i := 4) sc_checked_table.nd rfl (by first | exact .inl rfl | exact .inr rfl) (by decide)) sgs_nil))) (ss_cons (ss_set (i := 5) sc_checked_table.nd rfl (by first | exact .inl rfl | exact .inr rfl) (se_call tk (ok_couple_fault T) (hr.mono (by decide)) rfl T.G_couple_fault T.F_couple_fault.kp T.B_couple_fault (sa_cons (se_fz (sv 1)) (sa_cons (se_fz (sv 4)) (sa_cons (se_fz (se_sl (ml := none) (mh := (some (mVar 3))) (sv 2) rfl ⟨_, rfl, (sv 3)⟩)) sa_nil)))))
  (ss_one (ss_if (st_cmp (cmp_isnot) (sv 5) se_non (by rfl)) (ss_one ss_bad) ss_nil))))
  (ss_one (ss_ret (sv 0)))))))
theorem sc__law_own_shifts : FnScope ["seed", "many", "draws", "found", "shift", "first"] ["seed", "many"] (defScope s__law_own_shifts) := ⟨rfl, rfl, rfl, by decide +kernel, rfl, by decide +kernel, by decide +kernel⟩
theorem ok__law_own_shifts (T : Facts K mg a) : FnM P w K mg base (clOf a) 2 a.f__law_own_shifts a.d__law_own_shifts ["seed", "many"] p__law_own_shifts := by
  refine fnM_ok (N := ["seed", "many", "draws", "found", "shift", "first"]) T.F__law_own_shifts sc__law_own_shifts fun cdv A outer s H E hr => ?_
  have tk := takes_of (X := cxOf (L2.CX P w) P w K mg base ["seed", "many", "draws", "found", "shift", "first"] "_law_own_shifts" (defScope s__law_own_shifts) a.f__law_own_shifts cdv A outer s H E) (E := E) rfl rfl rfl rfl
  have hp := passes_of (X := cxOf (L2.CX P w) P w K mg base ["seed", "many", "draws", "found", "shift", "first"] "_law_own_shifts" (defScope s__law_own_shifts) a.f__law_own_shifts cdv A outer s H E) rfl
  exact (ss_cons (ss_par (i := 2) (j := 3) rfl sc__law_own_shifts.nd rfl rfl (by decide) rfl rfl (sa_cons (se_call tk (ok__law_begun T) (hr.mono (by decide)) rfl T.G__law_begun T.F__law_begun.kp T.B__law_begun (sa_cons (se_fz (sv 0)) sa_nil)) (sa_cons (se_lst sa_nil) sa_nil)) (by rfl))
  (ss_cons (ss_for (vs := [4]) hp rfl (si_rng1 rfl T.N_range (sa_cons (se_fz (sv 1)) sa_nil)) (sg_name (i := 4) sc__law_own_shifts.nd rfl (by first | exact .inl rfl | exact .inr rfl) (by decide)) (ss_cons (ss_set (i := 5) sc__law_own_shifts.nd rfl (by first | exact .inl rfl | exact .inr rfl) (se_call tk (ok__law_draw T) (hr.mono (by decide)) rfl T.G__law_draw T.F__law_draw.kp T.B__law_draw (sa_cons (sv 2) (sa_cons se_int sa_nil))))
  (ss_one (ss_expr (se_append (sv 3) (sa_cons (se_tup (sa_cons (se_fz (sv 5)) (sa_cons (se_fz (se_add (sv 5) (se_call tk (ok__law_draw T) (hr.mono (by decide)) rfl T.G__law_draw T.F__law_draw.kp T.B__law_draw (sa_cons (sv 2) (sa_cons se_int sa_nil))))) sa_nil))) sa_nil))))))
  (ss_one (ss_ret (se_callT cd_tuple rfl T.N_tuple (by decide +kernel) (sa_cons (sv 3) sa_nil))))))
theorem sc__law_own_rank : FnScope ["seed", "many", "draws", "left", "found"] ["seed", "many"] (defScope s__law_own_rank) := ⟨rfl, rfl, rfl, by decide +kernel, rfl, by decide +kernel, by decide +kernel⟩
theorem ok__law_own_rank (T : Facts K mg a) : FnM P w K mg base (clOf a) 2 a.f__law_own_rank a.d__law_own_rank ["seed", "many"] p__law_own_rank := by
  refine fnM_ok (N := ["seed", "many", "draws", "left", "found"]) T.F__law_own_rank sc__law_own_rank fun cdv A outer s H E hr => ?_
  have tk := takes_of (X := cxOf (L2.CX P w) P w K mg base ["seed", "many", "draws", "left", "found"] "_law_own_rank" (defScope s__law_own_rank) a.f__law_own_rank cdv A outer s H E) (E := E) rfl rfl rfl rfl
  have hp := passes_of (X := cxOf (L2.CX P w) P w K mg base ["seed", "many", "draws", "left", "found"] "_law_own_rank" (defScope s__law_own_rank) a.f__law_own_rank cdv A outer s H E) rfl
  exact (ss_cons (ss_par3 (i := 2) (j := 3) (l := 4) rfl sc__law_own_rank.nd rfl rfl rfl (by decide) (by decide) (by decide) rfl rfl rfl (sa_cons (se_call tk (ok__law_begun T) (hr.mono (by decide)) rfl T.G__law_begun T.F__law_begun.kp T.B__law_begun (sa_cons (se_fz (sv 0)) sa_nil)) (sa_cons (se_listRg1 rfl rfl T.N_list rfl T.N_range (sv 1)) (sa_cons (se_lst sa_nil) sa_nil))) (by rfl))
  (ss_cons (ss_while hp (st_cmp (cmp_ne (hu64 hr)) (sv 3) (se_lst sa_nil) (by rfl)) (ss_one (ss_expr (se_append (sv 4) (sa_cons (se_fz (se_popAt (sv 3) (sa_cons (se_fz (se_call tk (ok__law_draw T) (hr.mono (by decide)) rfl T.G__law_draw T.F__law_draw.kp T.B__law_draw (sa_cons (sv 2) (sa_cons (se_callB cd_len rfl T.N_len (by decide +kernel) (sa_cons (sv 3) sa_nil)) sa_nil)))) sa_nil))) sa_nil)))))
  (ss_one (ss_ret (se_callT cd_tuple rfl T.N_tuple (by decide +kernel) (sa_cons (sv 4) sa_nil))))))
theorem sc_drawn_shifts : FnScope ["seed", "many"] ["seed", "many"] (defScope s_drawn_shifts) := ⟨rfl, rfl, rfl, by decide +kernel, rfl, by decide +kernel, by decide +kernel⟩
theorem ok_drawn_shifts (T : Facts K mg a) : FnM P w K mg base (clOf a) 4 a.f_drawn_shifts a.d_drawn_shifts ["seed", "many"] p_drawn_shifts := by
  refine fnM_ok (N := ["seed", "many"]) T.F_drawn_shifts sc_drawn_shifts fun cdv A outer s H E hr => ?_
  have tk := takes_of (X := cxOf (L2.CX P w) P w K mg base ["seed", "many"] "drawn_shifts" (defScope s_drawn_shifts) a.f_drawn_shifts cdv A outer s H E) (E := E) rfl rfl rfl rfl
  have hp := passes_of (X := cxOf (L2.CX P w) P w K mg base ["seed", "many"] "drawn_shifts" (defScope s_drawn_shifts) a.f_drawn_shifts cdv A outer s H E) rfl
  exact (ss_one (ss_ret (se_call tk (ok_drawn_spans T) (hr.mono (by decide)) rfl T.G_drawn_spans T.F_drawn_spans.kp T.B_drawn_spans (sa_cons (se_fz (sv 0)) (sa_cons (se_fz (sv 1)) (sa_cons se_int sa_nil))))))
theorem sc_drawn_rank : FnScope ["seed", "many", "draws", "left", "found"] ["seed", "many"] (defScope s_drawn_rank) := ⟨rfl, rfl, rfl, by decide +kernel, rfl, by decide +kernel, by decide +kernel⟩
theorem ok_drawn_rank (T : Facts K mg a) : FnM P w K mg base (clOf a) 3 a.f_drawn_rank a.d_drawn_rank ["seed", "many"] p_drawn_rank := by
  refine fnM_ok (N := ["seed", "many", "draws", "left", "found"]) T.F_drawn_rank sc_drawn_rank fun cdv A outer s H E hr => ?_
  have tk := takes_of (X := cxOf (L2.CX P w) P w K mg base ["seed", "many", "draws", "left", "found"] "drawn_rank" (defScope s_drawn_rank) a.f_drawn_rank cdv A outer s H E) (E := E) rfl rfl rfl rfl
  have hp := passes_of (X := cxOf (L2.CX P w) P w K mg base ["seed", "many", "draws", "left", "found"] "drawn_rank" (defScope s_drawn_rank) a.f_drawn_rank cdv A outer s H E) rfl
  exact (ss_cons (ss_par3 (i := 2) (j := 3) (l := 4) rfl sc_drawn_rank.nd rfl rfl rfl (by decide) (by decide) (by decide) rfl rfl rfl (sa_cons (se_make "Draws" tk rfl T.M_Draws (ok_Draws___init__ T) (hr.mono (by decide)) rfl T.G_Draws T.B_Draws___init__ (sa_cons (se_fz (sv 0)) sa_nil)) (sa_cons (se_listRg1 rfl rfl T.N_list rfl T.N_range (sv 1)) (sa_cons (se_lst sa_nil) sa_nil))) (by rfl))
  (ss_cons (ss_while hp (st_val (sv 3)) (ss_one (ss_expr (se_append (sv 4) (sa_cons (se_fz (se_popAt (sv 3) (sa_cons (se_fz (se_meth "Draws" tk rfl T.K_Draws T.M_Draws_take (ok_Draws_take T) (hr.mono (by decide)) T.B_Draws_take (sv 2) (sa_cons (se_callB cd_len rfl T.N_len (by decide +kernel) (sa_cons (sv 3) sa_nil)) sa_nil))) sa_nil))) sa_nil)))))
  (ss_one (ss_ret (se_callT cd_tuple rfl T.N_tuple (by decide +kernel) (sa_cons (sv 4) sa_nil))))))
theorem sc_are_shifts : FnScope ["thing", "first", "last"] ["thing"] (defScope s_are_shifts) := ⟨rfl, rfl, rfl, by decide +kernel, rfl, by decide +kernel, by decide +kernel⟩
theorem ok_are_shifts (T : Facts K mg a) : FnM P w K mg base (clOf a) 7 a.f_are_shifts a.d_are_shifts ["thing"] p_are_shifts := by
  refine fnM_ok (N := ["thing", "first", "last"]) T.F_are_shifts sc_are_shifts fun cdv A outer s H E hr => ?_
  have tk := takes_of (X := cxOf (L2.CX P w) P w K mg base ["thing", "first", "last"] "are_shifts" (defScope s_are_shifts) a.f_are_shifts cdv A outer s H E) (E := E) rfl rfl rfl rfl
  have hp := passes_of (X := cxOf (L2.CX P w) P w K mg base ["thing", "first", "last"] "are_shifts" (defScope s_are_shifts) a.f_are_shifts cdv A outer s H E) rfl
  exact (ss_cons (ss_if (st_bool (sw_or (st_not (st_val (se_call tk (ok_are_pairs T) (hr.mono (by decide)) rfl T.G_are_pairs T.F_are_pairs.kp T.B_are_pairs (sa_cons (se_fz (sv 0)) sa_nil)))) (sw_or1 (st_cmp (cmp_ord (.inr (.inr (.inl rfl))) (hu64 hr)) (se_callB cd_len rfl T.N_len (by decide +kernel) (sa_cons (sv 0) sa_nil)) (se_globD rfl T.C_MOST_SHIFTS) (by rfl))))) (ss_one (ss_ret se_bl)) ss_nil)
  (ss_one (ss_ret (se_callB (cd_all rfl) rfl T.N_all (by decide +kernel) (sa_cons (se_lc (own := [("first", 1), ("last", 2)]) rfl sc_are_shifts.nd (si_seq (sv 0)) (blkOk_by (show blkC ["thing", "first", "last"] (defScope s_are_shifts) _ _ = true from by decide +kernel)) (fun _ _ _ _ _ => (sg_tup rfl (sgs_cons (sg_name (i := 1) sc_are_shifts.nd rfl (by first | exact .inl rfl | exact .inr rfl) (by decide)) (sgs_cons (sg_name (i := 2) sc_are_shifts.nd rfl (by first | exact .inl rfl | exact .inr rfl) (by decide)) sgs_nil)))) (fun _ _ _ _ _ => sts_nil) (fun _ _ _ _ _ => (se_fz (se_and (se_call takes0 (ok_is_moment T) (hr.mono (by decide)) rfl T.G_is_moment T.F_is_moment.kp T.B_is_moment (sa_cons (se_fz (sv 1)) sa_nil)) (se_and (se_call takes0 (ok_is_moment T) (hr.mono (by decide)) rfl T.G_is_moment T.F_is_moment.kp T.B_is_moment (sa_cons (se_fz (sv 2)) sa_nil)) (se_one (se_cmp (cmp_ord (.inr (.inl rfl)) (hu64 hr)) (sv 1) (sv 2) (by rfl)))))))) sa_nil)))))
theorem sc__law_own_deed : FnScope ["draws", "names", "way", "name", "number"] ["draws"] (defScope s__law_own_deed) := ⟨rfl, rfl, rfl, by decide +kernel, rfl, by decide +kernel, by decide +kernel⟩
theorem ok__law_own_deed (T : Facts K mg a) : FnM P w K mg base (clOf a) 2 a.f__law_own_deed a.d__law_own_deed ["draws"] p__law_own_deed := by
  refine fnM_ok (N := ["draws", "names", "way", "name", "number"]) T.F__law_own_deed sc__law_own_deed fun cdv A outer s H E hr => ?_
  have tk := takes_of (X := cxOf (L2.CX P w) P w K mg base ["draws", "names", "way", "name", "number"] "_law_own_deed" (defScope s__law_own_deed) a.f__law_own_deed cdv A outer s H E) (E := E) rfl rfl rfl rfl
  have hp := passes_of (X := cxOf (L2.CX P w) P w K mg base ["draws", "names", "way", "name", "number"] "_law_own_deed" (defScope s__law_own_deed) a.f__law_own_deed cdv A outer s H E) rfl
  exact (ss_cons (ss_set (i := 1) sc__law_own_deed.nd rfl (by first | exact .inl rfl | exact .inr rfl) (se_lst (sa_cons se_str (sa_cons se_str (sa_cons se_str (sa_cons se_str (sa_cons se_str (sa_cons se_str sa_nil))))))))
  (ss_cons (ss_par (i := 2) (j := 3) rfl sc__law_own_deed.nd rfl rfl (by decide) rfl rfl (sa_cons (se_call tk (ok__law_draw T) (hr.mono (by decide)) rfl T.G__law_draw T.F__law_draw.kp T.B__law_draw (sa_cons (sv 0) (sa_cons se_int sa_nil))) (sa_cons (se_ix (sv 1) (se_call tk (ok__law_draw T) (hr.mono (by decide)) rfl T.G__law_draw T.F__law_draw.kp T.B__law_draw (sa_cons (sv 0) (sa_cons se_int sa_nil)))) sa_nil)) (by rfl))
  (ss_cons (ss_set (i := 4) sc__law_own_deed.nd rfl (by first | exact .inl rfl | exact .inr rfl) (se_call tk (ok__law_draw T) (hr.mono (by decide)) rfl T.G__law_draw T.F__law_draw.kp T.B__law_draw (sa_cons (sv 0) (sa_cons se_int sa_nil))))
  (ss_cons (ss_if (st_cmp (cmp_ord (.inl rfl) (hu64 hr)) (sv 2) se_int (by rfl)) (ss_one (ss_ret (se_tup (sa_cons se_str (sa_cons (se_fz (sv 3)) sa_nil))))) ss_nil)
  (ss_cons (ss_if (st_cmp (cmp_ord (.inl rfl) (hu64 hr)) (sv 2) se_int (by rfl)) (ss_one (ss_ret (se_tup (sa_cons se_str (sa_cons (se_fz (sv 3)) sa_nil))))) ss_nil)
  (ss_one (ss_ret (se_if (st_cmp (cmp_ord (.inl rfl) (hu64 hr)) (sv 2) se_int (by rfl)) (se_tup (sa_cons se_str (sa_cons (se_fz (sv 4)) sa_nil))) (se_tup (sa_cons se_str sa_nil))))))))))
theorem sc_deed_by : FnScope ["way", "name", "number"] ["way", "name", "number"] (defScope s_deed_by) := ⟨rfl, rfl, rfl, by decide +kernel, rfl, by decide +kernel, by decide +kernel⟩
theorem ok_deed_by (T : Facts K mg a) : FnM P w K mg base (clOf a) 1 a.f_deed_by a.d_deed_by ["way", "name", "number"] p_deed_by := by
  refine fnM_ok (N := ["way", "name", "number"]) T.F_deed_by sc_deed_by fun cdv A outer s H E hr => ?_
  have tk := takes_of (X := cxOf (L2.CX P w) P w K mg base ["way", "name", "number"] "deed_by" (defScope s_deed_by) a.f_deed_by cdv A outer s H E) (E := E) rfl rfl rfl rfl
  have hp := passes_of (X := cxOf (L2.CX P w) P w K mg base ["way", "name", "number"] "deed_by" (defScope s_deed_by) a.f_deed_by cdv A outer s H E) rfl
  exact (ss_cons (ss_if (st_cmp (cmp_ord (.inl rfl) (hu64 hr)) (sv 0) se_int (by rfl)) (ss_one (ss_ret (se_tup (sa_cons se_str (sa_cons (se_fz (sv 1)) sa_nil))))) ss_nil)
  (ss_cons (ss_if (st_cmp (cmp_ord (.inl rfl) (hu64 hr)) (sv 0) se_int (by rfl)) (ss_one (ss_ret (se_tup (sa_cons se_str (sa_cons (se_fz (sv 1)) sa_nil))))) ss_nil)
  (ss_one (ss_ret (se_if (st_cmp (cmp_ord (.inl rfl) (hu64 hr)) (sv 0) se_int (by rfl)) (se_tup (sa_cons se_str (sa_cons (se_fz (sv 2)) sa_nil))) (se_tup (sa_cons se_str sa_nil)))))))
theorem sc_deeds_of : FnScope ["seed", "many", "draws", "found", "turn", "way", "name"] ["seed", "many"] (defScope s_deeds_of) := ⟨rfl, rfl, rfl, by decide +kernel, rfl, by decide +kernel, by decide +kernel⟩
theorem ok_deeds_of (T : Facts K mg a) : FnM P w K mg base (clOf a) 3 a.f_deeds_of a.d_deeds_of ["seed", "many"] p_deeds_of := by
  refine fnM_ok (N := ["seed", "many", "draws", "found", "turn", "way", "name"]) T.F_deeds_of sc_deeds_of fun cdv A outer s H E hr => ?_
  have tk := takes_of (X := cxOf (L2.CX P w) P w K mg base ["seed", "many", "draws", "found", "turn", "way", "name"] "deeds_of" (defScope s_deeds_of) a.f_deeds_of cdv A outer s H E) (E := E) rfl rfl rfl rfl
  have hp := passes_of (X := cxOf (L2.CX P w) P w K mg base ["seed", "many", "draws", "found", "turn", "way", "name"] "deeds_of" (defScope s_deeds_of) a.f_deeds_of cdv A outer s H E) rfl
  exact (ss_cons (ss_par (i := 2) (j := 3) rfl sc_deeds_of.nd rfl rfl (by decide) rfl rfl (sa_cons (se_make "Draws" tk rfl T.M_Draws (ok_Draws___init__ T) (hr.mono (by decide)) rfl T.G_Draws T.B_Draws___init__ (sa_cons (se_fz (sv 0)) sa_nil)) (sa_cons (se_lst sa_nil) sa_nil)) (by rfl))
  (ss_cons (ss_for (vs := [4]) hp rfl (si_rng1 rfl T.N_range (sa_cons (se_fz (sv 1)) sa_nil)) (sg_name (i := 4) sc_deeds_of.nd rfl (by first | exact .inl rfl | exact .inr rfl) (by decide)) (ss_cons (ss_par (i := 5) (j := 6) rfl sc_deeds_of.nd rfl rfl (by decide) rfl rfl (sa_cons (se_meth "Draws" tk rfl T.K_Draws T.M_Draws_take (ok_Draws_take T) (hr.mono (by decide)) T.B_Draws_take (sv 2) (sa_cons se_int sa_nil)) (sa_cons (se_ix (se_globD rfl T.C_NAMES) (se_meth "Draws" tk rfl T.K_Draws T.M_Draws_take (ok_Draws_take T) (hr.mono (by decide)) T.B_Draws_take (sv 2) (sa_cons (se_callB cd_len rfl T.N_len (by decide +kernel) (sa_cons (se_globD rfl T.C_NAMES) sa_nil)) sa_nil))) sa_nil)) (by rfl))
  (ss_one (ss_expr (se_append (sv 3) (sa_cons (se_fz (se_call tk (ok_deed_by T) (hr.mono (by decide)) rfl T.G_deed_by T.F_deed_by.kp T.B_deed_by (sa_cons (se_fz (sv 5)) (sa_cons (se_fz (sv 6)) (sa_cons (se_fz (se_meth "Draws" tk rfl T.K_Draws T.M_Draws_take (ok_Draws_take T) (hr.mono (by decide)) T.B_Draws_take (sv 2) (sa_cons se_int sa_nil))) sa_nil))))) sa_nil))))))
  (ss_one (ss_ret (se_callT cd_tuple rfl T.N_tuple (by decide +kernel) (sa_cons (sv 3) sa_nil))))))
theorem sc_law : FnScope ["script", "bag", "turn", "seed", "draws", "own", "many", "number", "longest", "visits", "table", "rank", "shifts", "k"] ["script"] (defScope s_law) := ⟨rfl, rfl, rfl, by decide +kernel, rfl, by decide +kernel, by decide +kernel⟩
theorem ok_law (T : Facts K mg a) : FnM P w K mg base (clOf a) 8 a.f_law a.d_law ["script"] p_law := by
  refine fnM_ok (N := ["script", "bag", "turn", "seed", "draws", "own", "many", "number", "longest", "visits", "table", "rank", "shifts", "k"]) T.F_law sc_law fun cdv A outer s H E hr => ?_
  have tk := takes_of (X := cxOf (L2.CX P w) P w K mg base ["script", "bag", "turn", "seed", "draws", "own", "many", "number", "longest", "visits", "table", "rank", "shifts", "k"] "law" (defScope s_law) a.f_law cdv A outer s H E) (E := E) rfl rfl rfl rfl
  have hp := passes_of (X := cxOf (L2.CX P w) P w K mg base ["script", "bag", "turn", "seed", "draws", "own", "many", "number", "longest", "visits", "table", "rank", "shifts", "k"] "law" (defScope s_law) a.f_law cdv A outer s H E) rfl
  exact (ss_cons (ss_set (i := 1) sc_law.nd rfl (by first | exact .inl rfl | exact .inr rfl) (se_call tk (ok__law_bag T) (hr.mono (by decide)) rfl T.G__law_bag T.F__law_bag.kp T.B__law_bag (sa_cons (sv 0) sa_nil)))
  (ss_cons (ss_for (vs := [2]) hp rfl (si_rng1 rfl T.N_range (sa_cons se_int sa_nil)) (sg_name (i := 2) sc_law.nd rfl (by first | exact .inl rfl | exact .inr rfl) (by decide)) (ss_cons (ss_set (i := 3) sc_law.nd rfl (by first | exact .inl rfl | exact .inr rfl) (se_call tk (ok__law_some T) (hr.mono (by decide)) rfl T.G__law_some T.F__law_some.kp T.B__law_some (sa_cons (sv 1) (sa_cons (se_fz (se_lst (sa_cons (se_fz (se_call tk (ok__law_take T) (hr.mono (by decide)) rfl T.G__law_take T.F__law_take.kp T.B__law_take (sa_cons (sv 1) (sa_cons (se_pow se_int se_int) sa_nil)))) (sa_cons (se_fz (se_add (se_pow se_int se_int) (se_call tk (ok__law_take T) (hr.mono (by decide)) rfl T.G__law_take T.F__law_take.kp T.B__law_take (sa_cons (sv 1) (sa_cons se_int sa_nil))))) (sa_cons se_int (sa_cons se_int (sa_cons se_int sa_nil))))))) sa_nil))))
  (ss_cons (ss_parT (is := [4, 5]) (n := 2) rfl (sa_cons (se_make "Draws" tk rfl T.M_Draws (ok_Draws___init__ T) (hr.mono (by decide)) rfl T.G_Draws T.B_Draws___init__ (sa_cons (se_fz (sv 3)) sa_nil)) (sa_cons (se_call tk (ok__law_begun T) (hr.mono (by decide)) rfl T.G__law_begun T.F__law_begun.kp T.B__law_begun (sa_cons (se_fz (sv 3)) sa_nil)) sa_nil)) (pns_cons (i := 4) sc_law.nd rfl (by first | exact .inl rfl | exact .inr rfl) (pns_cons (i := 5) sc_law.nd rfl (by first | exact .inl rfl | exact .inr rfl) pns_nil)))
  (ss_cons (ss_if (st_cmp (cmp_ne (hu64 hr)) (se_meth0 "Draws" tk rfl T.K_Draws T.M_Draws_state (ok_Draws_state T) (hr.mono (by decide)) T.B_Draws_state (sv 4)) (se_ix (sv 5) se_int) (by rfl)) (ss_one (ss_ret se_bl)) ss_nil)
  (ss_cons (ss_for (vs := [6]) hp rfl (si_seq (se_tup (sa_cons se_int (sa_cons se_int (sa_cons se_int (sa_cons (se_fz (se_add se_int (se_call tk (ok__law_take T) (hr.mono (by decide)) rfl T.G__law_take T.F__law_take.kp T.B__law_take (sa_cons (sv 1) (sa_cons (se_pow se_int se_int) sa_nil))))) sa_nil)))))) (sg_name (i := 6) sc_law.nd rfl (by first | exact .inl rfl | exact .inr rfl) (by decide)) (ss_cons (ss_set (i := 7) sc_law.nd rfl (by first | exact .inl rfl | exact .inr rfl) (se_call tk (ok__law_draw T) (hr.mono (by decide)) rfl T.G__law_draw T.F__law_draw.kp T.B__law_draw (sa_cons (sv 5) (sa_cons (se_fz (sv 6)) sa_nil))))
  (ss_one (ss_if (st_not (st_val (se_call tk (ok__law_alike T) (hr.mono (by decide)) rfl T.G__law_alike T.F__law_alike.kp T.B__law_alike (sa_cons (se_fz (se_lst (sa_cons (se_fz (se_meth "Draws" tk rfl T.K_Draws T.M_Draws_take (ok_Draws_take T) (hr.mono (by decide)) T.B_Draws_take (sv 4) (sa_cons (se_fz (sv 6)) sa_nil))) (sa_cons (se_fz (se_meth0 "Draws" tk rfl T.K_Draws T.M_Draws_state (ok_Draws_state T) (hr.mono (by decide)) T.B_Draws_state (sv 4))) sa_nil)))) (sa_cons (se_fz (se_lst (sa_cons (se_fz (sv 7)) (sa_cons (se_ix (sv 5) se_int) sa_nil)))) sa_nil))))) (ss_one (ss_ret se_bl)) ss_nil))))
  (ss_cons (ss_par (i := 6) (j := 8) rfl sc_law.nd rfl rfl (by decide) rfl rfl (sa_cons (se_add se_int (se_call tk (ok__law_take T) (hr.mono (by decide)) rfl T.G__law_take T.F__law_take.kp T.B__law_take (sa_cons (sv 1) (sa_cons se_int sa_nil)))) (sa_cons (se_add se_int (se_call tk (ok__law_take T) (hr.mono (by decide)) rfl T.G__law_take T.F__law_take.kp T.B__law_take (sa_cons (sv 1) (sa_cons se_int sa_nil)))) sa_nil)) (by rfl))
  (ss_cons (ss_set (i := 9) sc_law.nd rfl (by first | exact .inl rfl | exact .inr rfl) (se_call tk (ok_drawn_visits T) (hr.mono (by decide)) rfl T.G_drawn_visits T.F_drawn_visits.kp T.B_drawn_visits (sa_cons (se_fz (sv 3)) (sa_cons (se_fz (sv 6)) (sa_cons (se_fz (sv 8)) sa_nil)))))
  (ss_cons (ss_if (st_bool (sw_or (st_not (st_val (se_call tk (ok__law_alike T) (hr.mono (by decide)) rfl T.G__law_alike T.F__law_alike.kp T.B__law_alike (sa_cons (se_fz (sv 9)) (sa_cons (se_fz (se_call tk (ok__law_own_visits T) (hr.mono (by decide)) rfl T.G__law_own_visits T.F__law_own_visits.kp T.B__law_own_visits (sa_cons (se_fz (sv 3)) (sa_cons (se_fz (sv 6)) (sa_cons (se_fz (sv 8)) sa_nil))))) sa_nil))))) (sw_or1 (st_cmp (cmp_ne (hu64 hr)) (se_call tk (ok_checked_visits T) (hr.mono (by decide)) rfl T.G_checked_visits T.F_checked_visits.kp T.B_checked_visits (sa_cons (se_fz (sv 6)) (sa_cons (se_fz (sv 9)) sa_nil))) (sv 9) (by rfl))))) (ss_one (ss_ret se_bl)) ss_nil)
  (ss_cons (ss_set (i := 10) sc_law.nd rfl (by first | exact .inl rfl | exact .inr rfl) (se_call tk (ok_drawn_table T) (hr.mono (by decide)) rfl T.G_drawn_table T.F_drawn_table.kp T.B_drawn_table (sa_cons (se_fz (se_add (sv 3) se_int)) (sa_cons (se_fz (sv 6)) sa_nil))))
  (ss_cons (ss_if (st_bool (sw_or (st_not (st_val (se_call tk (ok__law_alike T) (hr.mono (by decide)) rfl T.G__law_alike T.F__law_alike.kp T.B__law_alike (sa_cons (se_fz (sv 10)) (sa_cons (se_fz (se_call tk (ok__law_own_table T) (hr.mono (by decide)) rfl T.G__law_own_table T.F__law_own_table.kp T.B__law_own_table (sa_cons (se_fz (se_add (sv 3) se_int)) (sa_cons (se_fz (sv 6)) sa_nil)))) sa_nil))))) (sw_or1 (st_cmp (cmp_ne (hu64 hr)) (se_call tk (ok_checked_table T) (hr.mono (by decide)) rfl T.G_checked_table T.F_checked_table.kp T.B_checked_table (sa_cons (se_fz (sv 10)) sa_nil)) (sv 10) (by rfl))))) (ss_one (ss_ret se_bl)) ss_nil)
  (ss_cons (ss_par (i := 11) (j := 12) rfl sc_law.nd rfl rfl (by decide) rfl rfl (sa_cons (se_call tk (ok__law_take T) (hr.mono (by decide)) rfl T.G__law_take T.F__law_take.kp T.B__law_take (sa_cons (sv 1) (sa_cons se_int sa_nil))) (sa_cons (se_call tk (ok__law_take T) (hr.mono (by decide)) rfl T.G__law_take T.F__law_take.kp T.B__law_take (sa_cons (sv 1) (sa_cons se_int sa_nil))) sa_nil)) (by rfl))
  (ss_cons (ss_if (st_not (st_val (se_call tk (ok__law_alike T) (hr.mono (by decide)) rfl T.G__law_alike T.F__law_alike.kp T.B__law_alike (sa_cons (se_fz (se_lst (sa_cons (se_fz (se_call tk (ok_drawn_rank T) (hr.mono (by decide)) rfl T.G_drawn_rank T.F_drawn_rank.kp T.B_drawn_rank (sa_cons (se_fz (se_add (sv 3) se_int)) (sa_cons (se_fz (sv 11)) sa_nil)))) (sa_cons (se_fz (se_call tk (ok_drawn_shifts T) (hr.mono (by decide)) rfl T.G_drawn_shifts T.F_drawn_shifts.kp T.B_drawn_shifts (sa_cons (se_fz (se_add (sv 3) se_int)) (sa_cons (se_fz (sv 12)) sa_nil)))) sa_nil)))) (sa_cons (se_fz (se_lst (sa_cons (se_fz (se_call tk (ok__law_own_rank T) (hr.mono (by decide)) rfl T.G__law_own_rank T.F__law_own_rank.kp T.B__law_own_rank (sa_cons (se_fz (se_add (sv 3) se_int)) (sa_cons (se_fz (sv 11)) sa_nil)))) (sa_cons (se_fz (se_call tk (ok__law_own_shifts T) (hr.mono (by decide)) rfl T.G__law_own_shifts T.F__law_own_shifts.kp T.B__law_own_shifts (sa_cons (se_fz (se_add (sv 3) se_int)) (sa_cons (se_fz (sv 12)) sa_nil)))) sa_nil)))) sa_nil))))) (ss_one (ss_ret se_bl)) ss_nil)
  (ss_cons (ss_if (st_cmp (cmp_isnot) (se_call tk (ok_are_shifts T) (hr.mono (by decide)) rfl T.G_are_shifts T.F_are_shifts.kp T.B_are_shifts (sa_cons (se_fz (se_call tk (ok_drawn_shifts T) (hr.mono (by decide)) rfl T.G_drawn_shifts T.F_drawn_shifts.kp T.B_drawn_shifts (sa_cons (se_fz (se_add (sv 3) se_int)) (sa_cons (se_fz (sv 12)) sa_nil)))) sa_nil)) se_bl (by rfl)) (ss_one (ss_ret se_bl)) ss_nil)
  (ss_cons (ss_parT (is := [5, 7]) (n := 2) rfl (sa_cons (se_call tk (ok__law_begun T) (hr.mono (by decide)) rfl T.G__law_begun T.F__law_begun.kp T.B__law_begun (sa_cons (se_fz (se_add (sv 3) se_int)) sa_nil)) (sa_cons (se_call tk (ok__law_some T) (hr.mono (by decide)) rfl T.G__law_some T.F__law_some.kp T.B__law_some (sa_cons (sv 1) (sa_cons (se_fz (se_lst (sa_cons se_int (sa_cons se_int (sa_cons se_int (sa_cons se_int sa_nil)))))) sa_nil))) sa_nil)) (pns_cons (i := 5) sc_law.nd rfl (by first | exact .inl rfl | exact .inr rfl) (pns_cons (i := 7) sc_law.nd rfl (by first | exact .inl rfl | exact .inr rfl) pns_nil)))
  (ss_one (ss_if (st_not (st_val (se_call tk (ok__law_alike T) (hr.mono (by decide)) rfl T.G__law_alike T.F__law_alike.kp T.B__law_alike (sa_cons (se_fz (se_call tk (ok_deeds_of T) (hr.mono (by decide)) rfl T.G_deeds_of T.F_deeds_of.kp T.B_deeds_of (sa_cons (se_fz (se_add (sv 3) se_int)) (sa_cons (se_fz (sv 7)) sa_nil)))) (sa_cons (se_callT cd_tuple rfl T.N_tuple (by decide +kernel) (sa_cons (se_lc (own := [("k", 13)]) rfl sc_law.nd (si_rng1 rfl T.N_range (sa_cons (se_fz (sv 7)) sa_nil)) (blkOk_by (show blkC ["script", "bag", "turn", "seed", "draws", "own", "many", "number", "longest", "visits", "table", "rank", "shifts", "k"] (defScope s_law) _ _ = true from by decide +kernel)) (fun _ _ _ _ _ => (sg_name (i := 13) sc_law.nd rfl (by first | exact .inl rfl | exact .inr rfl) (by decide))) (fun _ _ _ _ _ => sts_nil) (fun _ _ _ _ _ => (se_fz (se_call takes0 (ok__law_own_deed T) (hr.mono (by decide)) rfl T.G__law_own_deed T.F__law_own_deed.kp T.B__law_own_deed (sa_cons (sv 5) sa_nil))))) sa_nil)) sa_nil))))) (ss_one (ss_ret se_bl)) ss_nil))))))))))))))))
  (ss_one (ss_ret se_bl))))
end
theorem all_mk {l : PySem.W.OpenLaw} {w : World} {K : PySem.W.Frag} {h : Heap} {mg : Str → Option Value} {fa C_Draws f__law_bag f__law_take f__law_some f__law_begun f_Draws___init__ f_Draws_state f__law_draw f__law_alike f_Draws_take f_drawn_spans f_drawn_visits f__law_own_visits f_are_all f_is_integer f_are_integers f_is_pair f_are_pairs f_is_moment f_checked_visits f_all_couples f_drawn_table f__law_couples f__law_own_table f_couple_fault f_checked_table f__law_own_shifts f__law_own_rank f_drawn_shifts f_drawn_rank f_are_shifts f__law_own_deed f_deed_by f_deeds_of f_law : Addr} (X : K.In h) (G : h.Ns mainGlobals mg) (hfa : mg "law" = some (.ref fa))
    (hφ : ∀ ns : List Int, ns.length ≤ 63 → p_law [.s ns] [] = .ok (.d (.bool true)) [])
    {od__law_bag an__law_bag od__law_take an__law_take od__law_some an__law_some od__law_begun an__law_begun od_Draws___init__ an_Draws___init__ od_Draws_state an_Draws_state od__law_draw an__law_draw od__law_alike an__law_alike od_Draws_take an_Draws_take od_drawn_spans an_drawn_spans od_drawn_visits an_drawn_visits od__law_own_visits an__law_own_visits od_are_all an_are_all od_is_integer an_is_integer od_are_integers an_are_integers od_is_pair an_is_pair od_are_pairs an_are_pairs od_is_moment an_is_moment od_checked_visits an_checked_visits od_all_couples an_all_couples od_drawn_table an_drawn_table od__law_couples an__law_couples od__law_own_table an__law_own_table od_couple_fault an_couple_fault od_checked_table an_checked_table od__law_own_shifts an__law_own_shifts od__law_own_rank an__law_own_rank od_drawn_shifts an_drawn_shifts od_drawn_rank an_drawn_rank od_are_shifts an_are_shifts od__law_own_deed an__law_own_deed od_deed_by an_deed_by od_deeds_of an_deeds_of od_law an_law : Option Addr} {sl__law_bag sl__law_take sl__law_some sl__law_begun sl_Draws___init__ sl_Draws_state sl__law_draw sl__law_alike sl_Draws_take sl_drawn_spans sl_drawn_visits sl__law_own_visits sl_are_all sl_is_integer sl_are_integers sl_is_pair sl_are_pairs sl_is_moment sl_checked_visits sl_all_couples sl_drawn_table sl__law_couples sl__law_own_table sl_couple_fault sl_checked_table sl__law_own_shifts sl__law_own_rank sl_drawn_shifts sl_drawn_rank sl_are_shifts sl__law_own_deed sl_deed_by sl_deeds_of sl_law : Array (Option Value)} {oc__law_bag kV__law_bag dc__law_bag pm__law_bag cd__law_bag ct__law_bag oc__law_take kV__law_take dc__law_take pm__law_take cd__law_take ct__law_take oc__law_some kV__law_some dc__law_some pm__law_some cd__law_some ct__law_some oc__law_begun kV__law_begun dc__law_begun pm__law_begun cd__law_begun ct__law_begun oc_Draws___init__ kV_Draws___init__ dc_Draws___init__ pm_Draws___init__ cd_Draws___init__ ct_Draws___init__ oc_Draws_state kV_Draws_state dc_Draws_state pm_Draws_state cd_Draws_state ct_Draws_state oc__law_draw kV__law_draw dc__law_draw pm__law_draw cd__law_draw ct__law_draw oc__law_alike kV__law_alike dc__law_alike pm__law_alike cd__law_alike ct__law_alike oc_Draws_take kV_Draws_take dc_Draws_take pm_Draws_take cd_Draws_take ct_Draws_take oc_drawn_spans kV_drawn_spans dc_drawn_spans pm_drawn_spans cd_drawn_spans ct_drawn_spans oc_drawn_visits kV_drawn_visits dc_drawn_visits pm_drawn_visits cd_drawn_visits ct_drawn_visits oc__law_own_visits kV__law_own_visits dc__law_own_visits pm__law_own_visits cd__law_own_visits ct__law_own_visits oc_are_all kV_are_all dc_are_all pm_are_all cd_are_all ct_are_all oc_is_integer kV_is_integer dc_is_integer pm_is_integer cd_is_integer ct_is_integer oc_are_integers kV_are_integers dc_are_integers pm_are_integers cd_are_integers ct_are_integers oc_is_pair kV_is_pair dc_is_pair pm_is_pair cd_is_pair ct_is_pair oc_are_pairs kV_are_pairs dc_are_pairs pm_are_pairs cd_are_pairs ct_are_pairs oc_is_moment kV_is_moment dc_is_moment pm_is_moment cd_is_moment ct_is_moment oc_checked_visits kV_checked_visits dc_checked_visits pm_checked_visits cd_checked_visits ct_checked_visits oc_all_couples kV_all_couples dc_all_couples pm_all_couples cd_all_couples ct_all_couples oc_drawn_table kV_drawn_table dc_drawn_table pm_drawn_table cd_drawn_table ct_drawn_table oc__law_couples kV__law_couples dc__law_couples pm__law_couples cd__law_couples ct__law_couples oc__law_own_table kV__law_own_table dc__law_own_table pm__law_own_table cd__law_own_table ct__law_own_table oc_couple_fault kV_couple_fault dc_couple_fault pm_couple_fault cd_couple_fault ct_couple_fault oc_checked_table kV_checked_table dc_checked_table pm_checked_table cd_checked_table ct_checked_table oc__law_own_shifts kV__law_own_shifts dc__law_own_shifts pm__law_own_shifts cd__law_own_shifts ct__law_own_shifts oc__law_own_rank kV__law_own_rank dc__law_own_rank pm__law_own_rank cd__law_own_rank ct__law_own_rank oc_drawn_shifts kV_drawn_shifts dc_drawn_shifts pm_drawn_shifts cd_drawn_shifts ct_drawn_shifts oc_drawn_rank kV_drawn_rank dc_drawn_rank pm_drawn_rank cd_drawn_rank ct_drawn_rank oc_are_shifts kV_are_shifts dc_are_shifts pm_are_shifts cd_are_shifts ct_are_shifts oc__law_own_deed kV__law_own_deed dc__law_own_deed pm__law_own_deed cd__law_own_deed ct__law_own_deed oc_deed_by kV_deed_by dc_deed_by pm_deed_by cd_deed_by ct_deed_by oc_deeds_of kV_deeds_of dc_deeds_of pm_deeds_of cd_deeds_of ct_deeds_of oc_law kV_law dc_law pm_law cd_law ct_law : Value} {t_CUT : Tok} {t_FACTOR : Tok} {t_MODULUS : Tok} {t_MOST_MOMENT : Tok} {t_MOST_PEOPLE : Tok} {t_MOST_SHIFTS : Tok} {q_NAMES : Addr} {its_NAMES_0 : Array Value} {n_NAMES_0 : Nat} {od_NAMES_0 : Option Addr} {sl_NAMES_0 : Array (Option Value)} {t_SUMMAND : Tok}
    (aC_Draws : PySem.W.nsIn K mainGlobals "Draws" = some (some (.ref C_Draws)))
    (a__law_bag : PySem.W.nsIn K mainGlobals "_law_bag" = some (some (.ref f__law_bag)))
    (l__law_bag : K.lookup f__law_bag = some ⟨oc__law_bag, od__law_bag, .func (PySem.W.fnOf "_law_bag" "_law_bag" (defArgs s__law_bag) (defBody s__law_bag) (defScope s__law_bag) .none kV__law_bag dc__law_bag pm__law_bag an__law_bag cd__law_bag ct__law_bag), sl__law_bag⟩)
    (c__law_bag : PySem.W.codeIn K cd__law_bag "_law_bag" = true)
    (k__law_bag : PySem.W.keepIn K (.ref f__law_bag) = true)
    (a__law_take : PySem.W.nsIn K mainGlobals "_law_take" = some (some (.ref f__law_take)))
    (l__law_take : K.lookup f__law_take = some ⟨oc__law_take, od__law_take, .func (PySem.W.fnOf "_law_take" "_law_take" (defArgs s__law_take) (defBody s__law_take) (defScope s__law_take) .none kV__law_take dc__law_take pm__law_take an__law_take cd__law_take ct__law_take), sl__law_take⟩)
    (c__law_take : PySem.W.codeIn K cd__law_take "_law_take" = true)
    (k__law_take : PySem.W.keepIn K (.ref f__law_take) = true)
    (a__law_some : PySem.W.nsIn K mainGlobals "_law_some" = some (some (.ref f__law_some)))
    (l__law_some : K.lookup f__law_some = some ⟨oc__law_some, od__law_some, .func (PySem.W.fnOf "_law_some" "_law_some" (defArgs s__law_some) (defBody s__law_some) (defScope s__law_some) .none kV__law_some dc__law_some pm__law_some an__law_some cd__law_some ct__law_some), sl__law_some⟩)
    (c__law_some : PySem.W.codeIn K cd__law_some "_law_some" = true)
    (k__law_some : PySem.W.keepIn K (.ref f__law_some) = true)
    (a__law_begun : PySem.W.nsIn K mainGlobals "_law_begun" = some (some (.ref f__law_begun)))
    (l__law_begun : K.lookup f__law_begun = some ⟨oc__law_begun, od__law_begun, .func (PySem.W.fnOf "_law_begun" "_law_begun" (defArgs s__law_begun) (defBody s__law_begun) (defScope s__law_begun) .none kV__law_begun dc__law_begun pm__law_begun an__law_begun cd__law_begun ct__law_begun), sl__law_begun⟩)
    (c__law_begun : PySem.W.codeIn K cd__law_begun "_law_begun" = true)
    (k__law_begun : PySem.W.keepIn K (.ref f__law_begun) = true)
    (a_Draws___init__ : PySem.W.findIn K (.ref C_Draws) "__init__" = some (some (.ref f_Draws___init__)))
    (i_Draws___init__ : PySem.W.isFn K (.ref f_Draws___init__) = true)
    (l_Draws___init__ : K.lookup f_Draws___init__ = some ⟨oc_Draws___init__, od_Draws___init__, .func (PySem.W.fnOf "__init__" "Draws.__init__" (defArgs s_Draws___init__) (defBody s_Draws___init__) (defScope s_Draws___init__) .none kV_Draws___init__ dc_Draws___init__ pm_Draws___init__ an_Draws___init__ cd_Draws___init__ ct_Draws___init__), sl_Draws___init__⟩)
    (c_Draws___init__ : PySem.W.codeIn K cd_Draws___init__ "Draws.__init__" = true)
    (k_Draws___init__ : PySem.W.keepIn K (.ref f_Draws___init__) = true)
    (a_Draws_state : PySem.W.findIn K (.ref C_Draws) "state" = some (some (.ref f_Draws_state)))
    (i_Draws_state : PySem.W.isFn K (.ref f_Draws_state) = true)
    (l_Draws_state : K.lookup f_Draws_state = some ⟨oc_Draws_state, od_Draws_state, .func (PySem.W.fnOf "state" "Draws.state" (defArgs s_Draws_state) (defBody s_Draws_state) (defScope s_Draws_state) .none kV_Draws_state dc_Draws_state pm_Draws_state an_Draws_state cd_Draws_state ct_Draws_state), sl_Draws_state⟩)
    (c_Draws_state : PySem.W.codeIn K cd_Draws_state "Draws.state" = true)
    (k_Draws_state : PySem.W.keepIn K (.ref f_Draws_state) = true)
    (a__law_draw : PySem.W.nsIn K mainGlobals "_law_draw" = some (some (.ref f__law_draw)))
    (l__law_draw : K.lookup f__law_draw = some ⟨oc__law_draw, od__law_draw, .func (PySem.W.fnOf "_law_draw" "_law_draw" (defArgs s__law_draw) (defBody s__law_draw) (defScope s__law_draw) .none kV__law_draw dc__law_draw pm__law_draw an__law_draw cd__law_draw ct__law_draw), sl__law_draw⟩)
    (c__law_draw : PySem.W.codeIn K cd__law_draw "_law_draw" = true)
    (k__law_draw : PySem.W.keepIn K (.ref f__law_draw) = true)
    (a__law_alike : PySem.W.nsIn K mainGlobals "_law_alike" = some (some (.ref f__law_alike)))
    (l__law_alike : K.lookup f__law_alike = some ⟨oc__law_alike, od__law_alike, .func (PySem.W.fnOf "_law_alike" "_law_alike" (defArgs s__law_alike) (defBody s__law_alike) (defScope s__law_alike) .none kV__law_alike dc__law_alike pm__law_alike an__law_alike cd__law_alike ct__law_alike), sl__law_alike⟩)
    (c__law_alike : PySem.W.codeIn K cd__law_alike "_law_alike" = true)
    (k__law_alike : PySem.W.keepIn K (.ref f__law_alike) = true)
    (a_Draws_take : PySem.W.findIn K (.ref C_Draws) "take" = some (some (.ref f_Draws_take)))
    (i_Draws_take : PySem.W.isFn K (.ref f_Draws_take) = true)
    (l_Draws_take : K.lookup f_Draws_take = some ⟨oc_Draws_take, od_Draws_take, .func (PySem.W.fnOf "take" "Draws.take" (defArgs s_Draws_take) (defBody s_Draws_take) (defScope s_Draws_take) .none kV_Draws_take dc_Draws_take pm_Draws_take an_Draws_take cd_Draws_take ct_Draws_take), sl_Draws_take⟩)
    (c_Draws_take : PySem.W.codeIn K cd_Draws_take "Draws.take" = true)
    (k_Draws_take : PySem.W.keepIn K (.ref f_Draws_take) = true)
    (a_drawn_spans : PySem.W.nsIn K mainGlobals "drawn_spans" = some (some (.ref f_drawn_spans)))
    (l_drawn_spans : K.lookup f_drawn_spans = some ⟨oc_drawn_spans, od_drawn_spans, .func (PySem.W.fnOf "drawn_spans" "drawn_spans" (defArgs s_drawn_spans) (defBody s_drawn_spans) (defScope s_drawn_spans) .none kV_drawn_spans dc_drawn_spans pm_drawn_spans an_drawn_spans cd_drawn_spans ct_drawn_spans), sl_drawn_spans⟩)
    (c_drawn_spans : PySem.W.codeIn K cd_drawn_spans "drawn_spans" = true)
    (k_drawn_spans : PySem.W.keepIn K (.ref f_drawn_spans) = true)
    (a_drawn_visits : PySem.W.nsIn K mainGlobals "drawn_visits" = some (some (.ref f_drawn_visits)))
    (l_drawn_visits : K.lookup f_drawn_visits = some ⟨oc_drawn_visits, od_drawn_visits, .func (PySem.W.fnOf "drawn_visits" "drawn_visits" (defArgs s_drawn_visits) (defBody s_drawn_visits) (defScope s_drawn_visits) .none kV_drawn_visits dc_drawn_visits pm_drawn_visits an_drawn_visits cd_drawn_visits ct_drawn_visits), sl_drawn_visits⟩)
    (c_drawn_visits : PySem.W.codeIn K cd_drawn_visits "drawn_visits" = true)
    (k_drawn_visits : PySem.W.keepIn K (.ref f_drawn_visits) = true)
    (a__law_own_visits : PySem.W.nsIn K mainGlobals "_law_own_visits" = some (some (.ref f__law_own_visits)))
    (l__law_own_visits : K.lookup f__law_own_visits = some ⟨oc__law_own_visits, od__law_own_visits, .func (PySem.W.fnOf "_law_own_visits" "_law_own_visits" (defArgs s__law_own_visits) (defBody s__law_own_visits) (defScope s__law_own_visits) .none kV__law_own_visits dc__law_own_visits pm__law_own_visits an__law_own_visits cd__law_own_visits ct__law_own_visits), sl__law_own_visits⟩)
    (c__law_own_visits : PySem.W.codeIn K cd__law_own_visits "_law_own_visits" = true)
    (k__law_own_visits : PySem.W.keepIn K (.ref f__law_own_visits) = true)
    (a_are_all : PySem.W.nsIn K mainGlobals "are_all" = some (some (.ref f_are_all)))
    (l_are_all : K.lookup f_are_all = some ⟨oc_are_all, od_are_all, .func (PySem.W.fnOf "are_all" "are_all" (defArgs s_are_all) (defBody s_are_all) (defScope s_are_all) .none kV_are_all dc_are_all pm_are_all an_are_all cd_are_all ct_are_all), sl_are_all⟩)
    (c_are_all : PySem.W.codeIn K cd_are_all "are_all" = true)
    (k_are_all : PySem.W.keepIn K (.ref f_are_all) = true)
    (a_is_integer : PySem.W.nsIn K mainGlobals "is_integer" = some (some (.ref f_is_integer)))
    (l_is_integer : K.lookup f_is_integer = some ⟨oc_is_integer, od_is_integer, .func (PySem.W.fnOf "is_integer" "is_integer" (defArgs s_is_integer) (defBody s_is_integer) (defScope s_is_integer) .none kV_is_integer dc_is_integer pm_is_integer an_is_integer cd_is_integer ct_is_integer), sl_is_integer⟩)
    (c_is_integer : PySem.W.codeIn K cd_is_integer "is_integer" = true)
    (k_is_integer : PySem.W.keepIn K (.ref f_is_integer) = true)
    (a_are_integers : PySem.W.nsIn K mainGlobals "are_integers" = some (some (.ref f_are_integers)))
    (l_are_integers : K.lookup f_are_integers = some ⟨oc_are_integers, od_are_integers, .func (PySem.W.fnOf "are_integers" "are_integers" (defArgs s_are_integers) (defBody s_are_integers) (defScope s_are_integers) .none kV_are_integers dc_are_integers pm_are_integers an_are_integers cd_are_integers ct_are_integers), sl_are_integers⟩)
    (c_are_integers : PySem.W.codeIn K cd_are_integers "are_integers" = true)
    (k_are_integers : PySem.W.keepIn K (.ref f_are_integers) = true)
    (a_is_pair : PySem.W.nsIn K mainGlobals "is_pair" = some (some (.ref f_is_pair)))
    (l_is_pair : K.lookup f_is_pair = some ⟨oc_is_pair, od_is_pair, .func (PySem.W.fnOf "is_pair" "is_pair" (defArgs s_is_pair) (defBody s_is_pair) (defScope s_is_pair) .none kV_is_pair dc_is_pair pm_is_pair an_is_pair cd_is_pair ct_is_pair), sl_is_pair⟩)
    (c_is_pair : PySem.W.codeIn K cd_is_pair "is_pair" = true)
    (k_is_pair : PySem.W.keepIn K (.ref f_is_pair) = true)
    (a_are_pairs : PySem.W.nsIn K mainGlobals "are_pairs" = some (some (.ref f_are_pairs)))
    (l_are_pairs : K.lookup f_are_pairs = some ⟨oc_are_pairs, od_are_pairs, .func (PySem.W.fnOf "are_pairs" "are_pairs" (defArgs s_are_pairs) (defBody s_are_pairs) (defScope s_are_pairs) .none kV_are_pairs dc_are_pairs pm_are_pairs an_are_pairs cd_are_pairs ct_are_pairs), sl_are_pairs⟩)
    (c_are_pairs : PySem.W.codeIn K cd_are_pairs "are_pairs" = true)
    (k_are_pairs : PySem.W.keepIn K (.ref f_are_pairs) = true)
    (a_is_moment : PySem.W.nsIn K mainGlobals "is_moment" = some (some (.ref f_is_moment)))
    (l_is_moment : K.lookup f_is_moment = some ⟨oc_is_moment, od_is_moment, .func (PySem.W.fnOf "is_moment" "is_moment" (defArgs s_is_moment) (defBody s_is_moment) (defScope s_is_moment) .none kV_is_moment dc_is_moment pm_is_moment an_is_moment cd_is_moment ct_is_moment), sl_is_moment⟩)
    (c_is_moment : PySem.W.codeIn K cd_is_moment "is_moment" = true)
    (k_is_moment : PySem.W.keepIn K (.ref f_is_moment) = true)
    (a_checked_visits : PySem.W.nsIn K mainGlobals "checked_visits" = some (some (.ref f_checked_visits)))
    (l_checked_visits : K.lookup f_checked_visits = some ⟨oc_checked_visits, od_checked_visits, .func (PySem.W.fnOf "checked_visits" "checked_visits" (defArgs s_checked_visits) (defBody s_checked_visits) (defScope s_checked_visits) .none kV_checked_visits dc_checked_visits pm_checked_visits an_checked_visits cd_checked_visits ct_checked_visits), sl_checked_visits⟩)
    (c_checked_visits : PySem.W.codeIn K cd_checked_visits "checked_visits" = true)
    (k_checked_visits : PySem.W.keepIn K (.ref f_checked_visits) = true)
    (a_all_couples : PySem.W.nsIn K mainGlobals "all_couples" = some (some (.ref f_all_couples)))
    (l_all_couples : K.lookup f_all_couples = some ⟨oc_all_couples, od_all_couples, .func (PySem.W.fnOf "all_couples" "all_couples" (defArgs s_all_couples) (defBody s_all_couples) (defScope s_all_couples) .none kV_all_couples dc_all_couples pm_all_couples an_all_couples cd_all_couples ct_all_couples), sl_all_couples⟩)
    (c_all_couples : PySem.W.codeIn K cd_all_couples "all_couples" = true)
    (k_all_couples : PySem.W.keepIn K (.ref f_all_couples) = true)
    (a_drawn_table : PySem.W.nsIn K mainGlobals "drawn_table" = some (some (.ref f_drawn_table)))
    (l_drawn_table : K.lookup f_drawn_table = some ⟨oc_drawn_table, od_drawn_table, .func (PySem.W.fnOf "drawn_table" "drawn_table" (defArgs s_drawn_table) (defBody s_drawn_table) (defScope s_drawn_table) .none kV_drawn_table dc_drawn_table pm_drawn_table an_drawn_table cd_drawn_table ct_drawn_table), sl_drawn_table⟩)
    (c_drawn_table : PySem.W.codeIn K cd_drawn_table "drawn_table" = true)
    (k_drawn_table : PySem.W.keepIn K (.ref f_drawn_table) = true)
    (a__law_couples : PySem.W.nsIn K mainGlobals "_law_couples" = some (some (.ref f__law_couples)))
    (l__law_couples : K.lookup f__law_couples = some ⟨oc__law_couples, od__law_couples, .func (PySem.W.fnOf "_law_couples" "_law_couples" (defArgs s__law_couples) (defBody s__law_couples) (defScope s__law_couples) .none kV__law_couples dc__law_couples pm__law_couples an__law_couples cd__law_couples ct__law_couples), sl__law_couples⟩)
    (c__law_couples : PySem.W.codeIn K cd__law_couples "_law_couples" = true)
    (k__law_couples : PySem.W.keepIn K (.ref f__law_couples) = true)
    (a__law_own_table : PySem.W.nsIn K mainGlobals "_law_own_table" = some (some (.ref f__law_own_table)))
    (l__law_own_table : K.lookup f__law_own_table = some ⟨oc__law_own_table, od__law_own_table, .func (PySem.W.fnOf "_law_own_table" "_law_own_table" (defArgs s__law_own_table) (defBody s__law_own_table) (defScope s__law_own_table) .none kV__law_own_table dc__law_own_table pm__law_own_table an__law_own_table cd__law_own_table ct__law_own_table), sl__law_own_table⟩)
    (c__law_own_table : PySem.W.codeIn K cd__law_own_table "_law_own_table" = true)
    (k__law_own_table : PySem.W.keepIn K (.ref f__law_own_table) = true)
    (a_couple_fault : PySem.W.nsIn K mainGlobals "couple_fault" = some (some (.ref f_couple_fault)))
    (l_couple_fault : K.lookup f_couple_fault = some ⟨oc_couple_fault, od_couple_fault, .func (PySem.W.fnOf "couple_fault" "couple_fault" (defArgs s_couple_fault) (defBody s_couple_fault) (defScope s_couple_fault) .none kV_couple_fault dc_couple_fault pm_couple_fault an_couple_fault cd_couple_fault ct_couple_fault), sl_couple_fault⟩)
    (c_couple_fault : PySem.W.codeIn K cd_couple_fault "couple_fault" = true)
    (k_couple_fault : PySem.W.keepIn K (.ref f_couple_fault) = true)
    (a_checked_table : PySem.W.nsIn K mainGlobals "checked_table" = some (some (.ref f_checked_table)))
    (l_checked_table : K.lookup f_checked_table = some ⟨oc_checked_table, od_checked_table, .func (PySem.W.fnOf "checked_table" "checked_table" (defArgs s_checked_table) (defBody s_checked_table) (defScope s_checked_table) .none kV_checked_table dc_checked_table pm_checked_table an_checked_table cd_checked_table ct_checked_table), sl_checked_table⟩)
    (c_checked_table : PySem.W.codeIn K cd_checked_table "checked_table" = true)
    (k_checked_table : PySem.W.keepIn K (.ref f_checked_table) = true)
    (a__law_own_shifts : PySem.W.nsIn K mainGlobals "_law_own_shifts" = some (some (.ref f__law_own_shifts)))
    (l__law_own_shifts : K.lookup f__law_own_shifts = some ⟨oc__law_own_shifts, od__law_own_shifts, .func (PySem.W.fnOf "_law_own_shifts" "_law_own_shifts" (defArgs s__law_own_shifts) (defBody s__law_own_shifts) (defScope s__law_own_shifts) .none kV__law_own_shifts dc__law_own_shifts pm__law_own_shifts an__law_own_shifts cd__law_own_shifts ct__law_own_shifts), sl__law_own_shifts⟩)
    (c__law_own_shifts : PySem.W.codeIn K cd__law_own_shifts "_law_own_shifts" = true)
    (k__law_own_shifts : PySem.W.keepIn K (.ref f__law_own_shifts) = true)
    (a__law_own_rank : PySem.W.nsIn K mainGlobals "_law_own_rank" = some (some (.ref f__law_own_rank)))
    (l__law_own_rank : K.lookup f__law_own_rank = some ⟨oc__law_own_rank, od__law_own_rank, .func (PySem.W.fnOf "_law_own_rank" "_law_own_rank" (defArgs s__law_own_rank) (defBody s__law_own_rank) (defScope s__law_own_rank) .none kV__law_own_rank dc__law_own_rank pm__law_own_rank an__law_own_rank cd__law_own_rank ct__law_own_rank), sl__law_own_rank⟩)
    (c__law_own_rank : PySem.W.codeIn K cd__law_own_rank "_law_own_rank" = true)
    (k__law_own_rank : PySem.W.keepIn K (.ref f__law_own_rank) = true)
    (a_drawn_shifts : PySem.W.nsIn K mainGlobals "drawn_shifts" = some (some (.ref f_drawn_shifts)))
    (l_drawn_shifts : K.lookup f_drawn_shifts = some ⟨oc_drawn_shifts, od_drawn_shifts, .func (PySem.W.fnOf "drawn_shifts" "drawn_shifts" (defArgs s_drawn_shifts) (defBody s_drawn_shifts) (defScope s_drawn_shifts) .none kV_drawn_shifts dc_drawn_shifts pm_drawn_shifts an_drawn_shifts cd_drawn_shifts ct_drawn_shifts), sl_drawn_shifts⟩)
    (c_drawn_shifts : PySem.W.codeIn K cd_drawn_shifts "drawn_shifts" = true)
    (k_drawn_shifts : PySem.W.keepIn K (.ref f_drawn_shifts) = true)
    (a_drawn_rank : PySem.W.nsIn K mainGlobals "drawn_rank" = some (some (.ref f_drawn_rank)))
    (l_drawn_rank : K.lookup f_drawn_rank = some ⟨oc_drawn_rank, od_drawn_rank, .func (PySem.W.fnOf "drawn_rank" "drawn_rank" (defArgs s_drawn_rank) (defBody s_drawn_rank) (defScope s_drawn_rank) .none kV_drawn_rank dc_drawn_rank pm_drawn_rank an_drawn_rank cd_drawn_rank ct_drawn_rank), sl_drawn_rank⟩)
    (c_drawn_rank : PySem.W.codeIn K cd_drawn_rank "drawn_rank" = true)
    (k_drawn_rank : PySem.W.keepIn K (.ref f_drawn_rank) = true)
    (a_are_shifts : PySem.W.nsIn K mainGlobals "are_shifts" = some (some (.ref f_are_shifts)))
    (l_are_shifts : K.lookup f_are_shifts = some ⟨oc_are_shifts, od_are_shifts, .func (PySem.W.fnOf "are_shifts" "are_shifts" (defArgs s_are_shifts) (defBody s_are_shifts) (defScope s_are_shifts) .none kV_are_shifts dc_are_shifts pm_are_shifts an_are_shifts cd_are_shifts ct_are_shifts), sl_are_shifts⟩)
    (c_are_shifts : PySem.W.codeIn K cd_are_shifts "are_shifts" = true)
    (k_are_shifts : PySem.W.keepIn K (.ref f_are_shifts) = true)
    (a__law_own_deed : PySem.W.nsIn K mainGlobals "_law_own_deed" = some (some (.ref f__law_own_deed)))
    (l__law_own_deed : K.lookup f__law_own_deed = some ⟨oc__law_own_deed, od__law_own_deed, .func (PySem.W.fnOf "_law_own_deed" "_law_own_deed" (defArgs s__law_own_deed) (defBody s__law_own_deed) (defScope s__law_own_deed) .none kV__law_own_deed dc__law_own_deed pm__law_own_deed an__law_own_deed cd__law_own_deed ct__law_own_deed), sl__law_own_deed⟩)
    (c__law_own_deed : PySem.W.codeIn K cd__law_own_deed "_law_own_deed" = true)
    (k__law_own_deed : PySem.W.keepIn K (.ref f__law_own_deed) = true)
    (a_deed_by : PySem.W.nsIn K mainGlobals "deed_by" = some (some (.ref f_deed_by)))
    (l_deed_by : K.lookup f_deed_by = some ⟨oc_deed_by, od_deed_by, .func (PySem.W.fnOf "deed_by" "deed_by" (defArgs s_deed_by) (defBody s_deed_by) (defScope s_deed_by) .none kV_deed_by dc_deed_by pm_deed_by an_deed_by cd_deed_by ct_deed_by), sl_deed_by⟩)
    (c_deed_by : PySem.W.codeIn K cd_deed_by "deed_by" = true)
    (k_deed_by : PySem.W.keepIn K (.ref f_deed_by) = true)
    (a_deeds_of : PySem.W.nsIn K mainGlobals "deeds_of" = some (some (.ref f_deeds_of)))
    (l_deeds_of : K.lookup f_deeds_of = some ⟨oc_deeds_of, od_deeds_of, .func (PySem.W.fnOf "deeds_of" "deeds_of" (defArgs s_deeds_of) (defBody s_deeds_of) (defScope s_deeds_of) .none kV_deeds_of dc_deeds_of pm_deeds_of an_deeds_of cd_deeds_of ct_deeds_of), sl_deeds_of⟩)
    (c_deeds_of : PySem.W.codeIn K cd_deeds_of "deeds_of" = true)
    (k_deeds_of : PySem.W.keepIn K (.ref f_deeds_of) = true)
    (a_law : PySem.W.nsIn K mainGlobals "law" = some (some (.ref f_law)))
    (l_law : K.lookup f_law = some ⟨oc_law, od_law, .func (PySem.W.fnOf "law" "law" (defArgs s_law) (defBody s_law) (defScope s_law) .none kV_law dc_law pm_law an_law cd_law ct_law), sl_law⟩)
    (c_law : PySem.W.codeIn K cd_law "law" = true)
    (k_law : PySem.W.keepIn K (.ref f_law) = true)
    (pg_Draws : PySem.W.plainGet K C_Draws Str.empty = true)
    (hd_Draws : PySem.W.hasDictIn K C_Draws = true)
    (po_Draws : PySem.W.plainOver K C_Draws = true)
    (sa_Draws : PySem.W.findIn K (.ref C_Draws) "__setattr__" = some (some (.builtin "object.__setattr__")))
    (mk_Draws : PySem.W.makesIn K C_Draws = true)
    (kc_Draws : PySem.W.keepIn K (.ref C_Draws) = true)
    (A_Draws_its_state : PySem.W.findIn K (.ref C_Draws) "its_state" = some none)
    (N_abs : PySem.W.nsIn K mainGlobals "abs" = some none)
    (N_all : PySem.W.nsIn K mainGlobals "all" = some none)
    (N_bool : PySem.W.nsIn K mainGlobals "bool" = some none)
    (N_enumerate : PySem.W.nsIn K mainGlobals "enumerate" = some none)
    (N_int : PySem.W.nsIn K mainGlobals "int" = some none)
    (N_isinstance : PySem.W.nsIn K mainGlobals "isinstance" = some none)
    (N_len : PySem.W.nsIn K mainGlobals "len" = some none)
    (N_list : PySem.W.nsIn K mainGlobals "list" = some none)
    (N_range : PySem.W.nsIn K mainGlobals "range" = some none)
    (N_str : PySem.W.nsIn K mainGlobals "str" = some none)
    (N_tuple : PySem.W.nsIn K mainGlobals "tuple" = some none)
    (N_zip : PySem.W.nsIn K mainGlobals "zip" = some none)
    (C_CUT : PySem.W.nsIn K mainGlobals "CUT" = some (some (.int (7) t_CUT)))
    (C_FACTOR : PySem.W.nsIn K mainGlobals "FACTOR" = some (some (.int (48271) t_FACTOR)))
    (C_MODULUS : PySem.W.nsIn K mainGlobals "MODULUS" = some (some (.int (2147483647) t_MODULUS)))
    (C_MOST_MOMENT : PySem.W.nsIn K mainGlobals "MOST_MOMENT" = some (some (.int (9999) t_MOST_MOMENT)))
    (C_MOST_PEOPLE : PySem.W.nsIn K mainGlobals "MOST_PEOPLE" = some (some (.int (10) t_MOST_PEOPLE)))
    (C_MOST_SHIFTS : PySem.W.nsIn K mainGlobals "MOST_SHIFTS" = some (some (.int (12) t_MOST_SHIFTS)))
    (C_NAMES : PySem.W.nsIn K mainGlobals "NAMES" = some (some (.ref q_NAMES)))
    (L_NAMES_0 : K.lookup q_NAMES = some ⟨.type "tuple", od_NAMES_0, .seq its_NAMES_0 n_NAMES_0, sl_NAMES_0⟩)
    (Z_NAMES_0 : its_NAMES_0.size ≤ sizeLine)
    (E_NAMES_0_0 : atomIs its_NAMES_0[0]? (.str "ash") = true)
    (E_NAMES_0_1 : atomIs its_NAMES_0[1]? (.str "bea") = true)
    (E_NAMES_0_2 : atomIs its_NAMES_0[2]? (.str "cid") = true)
    (E_NAMES_0_3 : atomIs its_NAMES_0[3]? (.str "dot") = true)
    (E_NAMES_0_4 : atomIs its_NAMES_0[4]? (.str "eli") = true)
    (E_NAMES_0_5 : atomIs its_NAMES_0[5]? (.str "fay") = true)
    (S_NAMES_0 : its_NAMES_0.size = 6)
    (C_SUMMAND : PySem.W.nsIn K mainGlobals "SUMMAND" = some (some (.int (11) t_SUMMAND))) :
    ∃ fd : FuncData, (∀ (s : Shared) (v : Value), BindsTo s fd ⟨[v], []⟩ [("script", v)]) ∧ ∀ base : Heap, K.In base → base.Ns mainGlobals mg → FnOk l.prog w K mg base (L2.CX l.prog w) 8 fa fd ["script"] (spLaw K) := by
  have e := hfa.symm.trans (PySem.W.mg_of X G a_law)
  cases e
  have F__law_bag := fun_mk (st := s__law_bag) l__law_bag c__law_bag k__law_bag
  have B__law_bag := F__law_bag.binds (ps := ["script"]) fun _ _ _ _ _ _ us hl => match us, hl with | [_], _ => rfl
  have F__law_take := fun_mk (st := s__law_take) l__law_take c__law_take k__law_take
  have B__law_take := F__law_take.binds (ps := ["bag", "many"]) fun _ _ _ _ _ _ us hl => match us, hl with | [_, _], _ => rfl
  have F__law_some := fun_mk (st := s__law_some) l__law_some c__law_some k__law_some
  have B__law_some := F__law_some.binds (ps := ["bag", "things"]) fun _ _ _ _ _ _ us hl => match us, hl with | [_, _], _ => rfl
  have F__law_begun := fun_mk (st := s__law_begun) l__law_begun c__law_begun k__law_begun
  have B__law_begun := F__law_begun.binds (ps := ["seed"]) fun _ _ _ _ _ _ us hl => match us, hl with | [_], _ => rfl
  have F_Draws___init__ := fun_mk (st := s_Draws___init__) l_Draws___init__ c_Draws___init__ k_Draws___init__
  have B_Draws___init__ := F_Draws___init__.binds (ps := ["self", "seed"]) fun _ _ _ _ _ _ us hl => match us, hl with | [_, _], _ => rfl
  have F_Draws_state := fun_mk (st := s_Draws_state) l_Draws_state c_Draws_state k_Draws_state
  have B_Draws_state := F_Draws_state.binds (ps := ["self"]) fun _ _ _ _ _ _ us hl => match us, hl with | [_], _ => rfl
  have F__law_draw := fun_mk (st := s__law_draw) l__law_draw c__law_draw k__law_draw
  have B__law_draw := F__law_draw.binds (ps := ["draws", "many"]) fun _ _ _ _ _ _ us hl => match us, hl with | [_, _], _ => rfl
  have F__law_alike := fun_mk (st := s__law_alike) l__law_alike c__law_alike k__law_alike
  have B__law_alike := F__law_alike.binds (ps := ["found", "due"]) fun _ _ _ _ _ _ us hl => match us, hl with | [_, _], _ => rfl
  have F_Draws_take := fun_mk (st := s_Draws_take) l_Draws_take c_Draws_take k_Draws_take
  have B_Draws_take := F_Draws_take.binds (ps := ["self", "many"]) fun _ _ _ _ _ _ us hl => match us, hl with | [_, _], _ => rfl
  have F_drawn_spans := fun_mk (st := s_drawn_spans) l_drawn_spans c_drawn_spans k_drawn_spans
  have B_drawn_spans := F_drawn_spans.binds (ps := ["seed", "many", "longest"]) fun _ _ _ _ _ _ us hl => match us, hl with | [_, _, _], _ => rfl
  have F_drawn_visits := fun_mk (st := s_drawn_visits) l_drawn_visits c_drawn_visits k_drawn_visits
  have B_drawn_visits := F_drawn_visits.binds (ps := ["seed", "many", "longest"]) fun _ _ _ _ _ _ us hl => match us, hl with | [_, _, _], _ => rfl
  have F__law_own_visits := fun_mk (st := s__law_own_visits) l__law_own_visits c__law_own_visits k__law_own_visits
  have B__law_own_visits := F__law_own_visits.binds (ps := ["seed", "many", "longest"]) fun _ _ _ _ _ _ us hl => match us, hl with | [_, _, _], _ => rfl
  have F_are_all := fun_mk (st := s_are_all) l_are_all c_are_all k_are_all
  have B_are_all := F_are_all.binds (ps := ["thing", "fits"]) fun _ _ _ _ _ _ us hl => match us, hl with | [_, _], _ => rfl
  have F_is_integer := fun_mk (st := s_is_integer) l_is_integer c_is_integer k_is_integer
  have B_is_integer := F_is_integer.binds (ps := ["thing"]) fun _ _ _ _ _ _ us hl => match us, hl with | [_], _ => rfl
  have F_are_integers := fun_mk (st := s_are_integers) l_are_integers c_are_integers k_are_integers
  have B_are_integers := F_are_integers.binds (ps := ["thing"]) fun _ _ _ _ _ _ us hl => match us, hl with | [_], _ => rfl
  have F_is_pair := fun_mk (st := s_is_pair) l_is_pair c_is_pair k_is_pair
  have B_is_pair := F_is_pair.binds (ps := ["thing"]) fun _ _ _ _ _ _ us hl => match us, hl with | [_], _ => rfl
  have F_are_pairs := fun_mk (st := s_are_pairs) l_are_pairs c_are_pairs k_are_pairs
  have B_are_pairs := F_are_pairs.binds (ps := ["thing"]) fun _ _ _ _ _ _ us hl => match us, hl with | [_], _ => rfl
  have F_is_moment := fun_mk (st := s_is_moment) l_is_moment c_is_moment k_is_moment
  have B_is_moment := F_is_moment.binds (ps := ["thing"]) fun _ _ _ _ _ _ us hl => match us, hl with | [_], _ => rfl
  have F_checked_visits := fun_mk (st := s_checked_visits) l_checked_visits c_checked_visits k_checked_visits
  have B_checked_visits := F_checked_visits.binds (ps := ["many", "thing"]) fun _ _ _ _ _ _ us hl => match us, hl with | [_, _], _ => rfl
  have F_all_couples := fun_mk (st := s_all_couples) l_all_couples c_all_couples k_all_couples
  have B_all_couples := F_all_couples.binds (ps := ["many"]) fun _ _ _ _ _ _ us hl => match us, hl with | [_], _ => rfl
  have F_drawn_table := fun_mk (st := s_drawn_table) l_drawn_table c_drawn_table k_drawn_table
  have B_drawn_table := F_drawn_table.binds (ps := ["seed", "many"]) fun _ _ _ _ _ _ us hl => match us, hl with | [_, _], _ => rfl
  have F__law_couples := fun_mk (st := s__law_couples) l__law_couples c__law_couples k__law_couples
  have B__law_couples := F__law_couples.binds (ps := ["many"]) fun _ _ _ _ _ _ us hl => match us, hl with | [_], _ => rfl
  have F__law_own_table := fun_mk (st := s__law_own_table) l__law_own_table c__law_own_table k__law_own_table
  have B__law_own_table := F__law_own_table.binds (ps := ["seed", "many"]) fun _ _ _ _ _ _ us hl => match us, hl with | [_, _], _ => rfl
  have F_couple_fault := fun_mk (st := s_couple_fault) l_couple_fault c_couple_fault k_couple_fault
  have B_couple_fault := F_couple_fault.binds (ps := ["many", "couple", "before"]) fun _ _ _ _ _ _ us hl => match us, hl with | [_, _, _], _ => rfl
  have F_checked_table := fun_mk (st := s_checked_table) l_checked_table c_checked_table k_checked_table
  have B_checked_table := F_checked_table.binds (ps := ["thing"]) fun _ _ _ _ _ _ us hl => match us, hl with | [_], _ => rfl
  have F__law_own_shifts := fun_mk (st := s__law_own_shifts) l__law_own_shifts c__law_own_shifts k__law_own_shifts
  have B__law_own_shifts := F__law_own_shifts.binds (ps := ["seed", "many"]) fun _ _ _ _ _ _ us hl => match us, hl with | [_, _], _ => rfl
  have F__law_own_rank := fun_mk (st := s__law_own_rank) l__law_own_rank c__law_own_rank k__law_own_rank
  have B__law_own_rank := F__law_own_rank.binds (ps := ["seed", "many"]) fun _ _ _ _ _ _ us hl => match us, hl with | [_, _], _ => rfl
  have F_drawn_shifts := fun_mk (st := s_drawn_shifts) l_drawn_shifts c_drawn_shifts k_drawn_shifts
  have B_drawn_shifts := F_drawn_shifts.binds (ps := ["seed", "many"]) fun _ _ _ _ _ _ us hl => match us, hl with | [_, _], _ => rfl
  have F_drawn_rank := fun_mk (st := s_drawn_rank) l_drawn_rank c_drawn_rank k_drawn_rank
  have B_drawn_rank := F_drawn_rank.binds (ps := ["seed", "many"]) fun _ _ _ _ _ _ us hl => match us, hl with | [_, _], _ => rfl
  have F_are_shifts := fun_mk (st := s_are_shifts) l_are_shifts c_are_shifts k_are_shifts
  have B_are_shifts := F_are_shifts.binds (ps := ["thing"]) fun _ _ _ _ _ _ us hl => match us, hl with | [_], _ => rfl
  have F__law_own_deed := fun_mk (st := s__law_own_deed) l__law_own_deed c__law_own_deed k__law_own_deed
  have B__law_own_deed := F__law_own_deed.binds (ps := ["draws"]) fun _ _ _ _ _ _ us hl => match us, hl with | [_], _ => rfl
  have F_deed_by := fun_mk (st := s_deed_by) l_deed_by c_deed_by k_deed_by
  have B_deed_by := F_deed_by.binds (ps := ["way", "name", "number"]) fun _ _ _ _ _ _ us hl => match us, hl with | [_, _, _], _ => rfl
  have F_deeds_of := fun_mk (st := s_deeds_of) l_deeds_of c_deeds_of k_deeds_of
  have B_deeds_of := F_deeds_of.binds (ps := ["seed", "many"]) fun _ _ _ _ _ _ us hl => match us, hl with | [_, _], _ => rfl
  have F_law := fun_mk (st := s_law) l_law c_law k_law
  have B_law := F_law.binds (ps := ["script"]) fun _ _ _ _ _ _ us hl => match us, hl with | [_], _ => rfl
  have T : Facts K mg ⟨f__law_bag, PySem.W.fnOf "_law_bag" "_law_bag" (defArgs s__law_bag) (defBody s__law_bag) (defScope s__law_bag) .none kV__law_bag dc__law_bag pm__law_bag an__law_bag cd__law_bag ct__law_bag, f__law_take, PySem.W.fnOf "_law_take" "_law_take" (defArgs s__law_take) (defBody s__law_take) (defScope s__law_take) .none kV__law_take dc__law_take pm__law_take an__law_take cd__law_take ct__law_take, f__law_some, PySem.W.fnOf "_law_some" "_law_some" (defArgs s__law_some) (defBody s__law_some) (defScope s__law_some) .none kV__law_some dc__law_some pm__law_some an__law_some cd__law_some ct__law_some, f__law_begun, PySem.W.fnOf "_law_begun" "_law_begun" (defArgs s__law_begun) (defBody s__law_begun) (defScope s__law_begun) .none kV__law_begun dc__law_begun pm__law_begun an__law_begun cd__law_begun ct__law_begun, f_Draws___init__, PySem.W.fnOf "__init__" "Draws.__init__" (defArgs s_Draws___init__) (defBody s_Draws___init__) (defScope s_Draws___init__) .none kV_Draws___init__ dc_Draws___init__ pm_Draws___init__ an_Draws___init__ cd_Draws___init__ ct_Draws___init__, f_Draws_state, PySem.W.fnOf "state" "Draws.state" (defArgs s_Draws_state) (defBody s_Draws_state) (defScope s_Draws_state) .none kV_Draws_state dc_Draws_state pm_Draws_state an_Draws_state cd_Draws_state ct_Draws_state, f__law_draw, PySem.W.fnOf "_law_draw" "_law_draw" (defArgs s__law_draw) (defBody s__law_draw) (defScope s__law_draw) .none kV__law_draw dc__law_draw pm__law_draw an__law_draw cd__law_draw ct__law_draw, f__law_alike, PySem.W.fnOf "_law_alike" "_law_alike" (defArgs s__law_alike) (defBody s__law_alike) (defScope s__law_alike) .none kV__law_alike dc__law_alike pm__law_alike an__law_alike cd__law_alike ct__law_alike, f_Draws_take, PySem.W.fnOf "take" "Draws.take" (defArgs s_Draws_take) (defBody s_Draws_take) (defScope s_Draws_take) .none kV_Draws_take dc_Draws_take pm_Draws_take an_Draws_take cd_Draws_take ct_Draws_take, f_drawn_spans, PySem.W.fnOf "drawn_spans" "drawn_spans" (defArgs s_drawn_spans) (defBody s_drawn_spans) (defScope s_drawn_spans) .none kV_drawn_spans dc_drawn_spans pm_drawn_spans an_drawn_spans cd_drawn_spans ct_drawn_spans, f_drawn_visits, PySem.W.fnOf "drawn_visits" "drawn_visits" (defArgs s_drawn_visits) (defBody s_drawn_visits) (defScope s_drawn_visits) .none kV_drawn_visits dc_drawn_visits pm_drawn_visits an_drawn_visits cd_drawn_visits ct_drawn_visits, f__law_own_visits, PySem.W.fnOf "_law_own_visits" "_law_own_visits" (defArgs s__law_own_visits) (defBody s__law_own_visits) (defScope s__law_own_visits) .none kV__law_own_visits dc__law_own_visits pm__law_own_visits an__law_own_visits cd__law_own_visits ct__law_own_visits, f_are_all, PySem.W.fnOf "are_all" "are_all" (defArgs s_are_all) (defBody s_are_all) (defScope s_are_all) .none kV_are_all dc_are_all pm_are_all an_are_all cd_are_all ct_are_all, f_is_integer, PySem.W.fnOf "is_integer" "is_integer" (defArgs s_is_integer) (defBody s_is_integer) (defScope s_is_integer) .none kV_is_integer dc_is_integer pm_is_integer an_is_integer cd_is_integer ct_is_integer, f_are_integers, PySem.W.fnOf "are_integers" "are_integers" (defArgs s_are_integers) (defBody s_are_integers) (defScope s_are_integers) .none kV_are_integers dc_are_integers pm_are_integers an_are_integers cd_are_integers ct_are_integers, f_is_pair, PySem.W.fnOf "is_pair" "is_pair" (defArgs s_is_pair) (defBody s_is_pair) (defScope s_is_pair) .none kV_is_pair dc_is_pair pm_is_pair an_is_pair cd_is_pair ct_is_pair, f_are_pairs, PySem.W.fnOf "are_pairs" "are_pairs" (defArgs s_are_pairs) (defBody s_are_pairs) (defScope s_are_pairs) .none kV_are_pairs dc_are_pairs pm_are_pairs an_are_pairs cd_are_pairs ct_are_pairs, f_is_moment, PySem.W.fnOf "is_moment" "is_moment" (defArgs s_is_moment) (defBody s_is_moment) (defScope s_is_moment) .none kV_is_moment dc_is_moment pm_is_moment an_is_moment cd_is_moment ct_is_moment, f_checked_visits, PySem.W.fnOf "checked_visits" "checked_visits" (defArgs s_checked_visits) (defBody s_checked_visits) (defScope s_checked_visits) .none kV_checked_visits dc_checked_visits pm_checked_visits an_checked_visits cd_checked_visits ct_checked_visits, f_all_couples, PySem.W.fnOf "all_couples" "all_couples" (defArgs s_all_couples) (defBody s_all_couples) (defScope s_all_couples) .none kV_all_couples dc_all_couples pm_all_couples an_all_couples cd_all_couples ct_all_couples, f_drawn_table, PySem.W.fnOf "drawn_table" "drawn_table" (defArgs s_drawn_table) (defBody s_drawn_table) (defScope s_drawn_table) .none kV_drawn_table dc_drawn_table pm_drawn_table an_drawn_table cd_drawn_table ct_drawn_table, f__law_couples, PySem.W.fnOf "_law_couples" "_law_couples" (defArgs s__law_couples) (defBody s__law_couples) (defScope s__law_couples) .none kV__law_couples dc__law_couples pm__law_couples an__law_couples cd__law_couples ct__law_couples, f__law_own_table, PySem.W.fnOf "_law_own_table" "_law_own_table" (defArgs s__law_own_table) (defBody s__law_own_table) (defScope s__law_own_table) .none kV__law_own_table dc__law_own_table pm__law_own_table an__law_own_table cd__law_own_table ct__law_own_table, f_couple_fault, PySem.W.fnOf "couple_fault" "couple_fault" (defArgs s_couple_fault) (defBody s_couple_fault) (defScope s_couple_fault) .none kV_couple_fault dc_couple_fault pm_couple_fault an_couple_fault cd_couple_fault ct_couple_fault, f_checked_table, PySem.W.fnOf "checked_table" "checked_table" (defArgs s_checked_table) (defBody s_checked_table) (defScope s_checked_table) .none kV_checked_table dc_checked_table pm_checked_table an_checked_table cd_checked_table ct_checked_table, f__law_own_shifts, PySem.W.fnOf "_law_own_shifts" "_law_own_shifts" (defArgs s__law_own_shifts) (defBody s__law_own_shifts) (defScope s__law_own_shifts) .none kV__law_own_shifts dc__law_own_shifts pm__law_own_shifts an__law_own_shifts cd__law_own_shifts ct__law_own_shifts, f__law_own_rank, PySem.W.fnOf "_law_own_rank" "_law_own_rank" (defArgs s__law_own_rank) (defBody s__law_own_rank) (defScope s__law_own_rank) .none kV__law_own_rank dc__law_own_rank pm__law_own_rank an__law_own_rank cd__law_own_rank ct__law_own_rank, f_drawn_shifts, PySem.W.fnOf "drawn_shifts" "drawn_shifts" (defArgs s_drawn_shifts) (defBody s_drawn_shifts) (defScope s_drawn_shifts) .none kV_drawn_shifts dc_drawn_shifts pm_drawn_shifts an_drawn_shifts cd_drawn_shifts ct_drawn_shifts, f_drawn_rank, PySem.W.fnOf "drawn_rank" "drawn_rank" (defArgs s_drawn_rank) (defBody s_drawn_rank) (defScope s_drawn_rank) .none kV_drawn_rank dc_drawn_rank pm_drawn_rank an_drawn_rank cd_drawn_rank ct_drawn_rank, f_are_shifts, PySem.W.fnOf "are_shifts" "are_shifts" (defArgs s_are_shifts) (defBody s_are_shifts) (defScope s_are_shifts) .none kV_are_shifts dc_are_shifts pm_are_shifts an_are_shifts cd_are_shifts ct_are_shifts, f__law_own_deed, PySem.W.fnOf "_law_own_deed" "_law_own_deed" (defArgs s__law_own_deed) (defBody s__law_own_deed) (defScope s__law_own_deed) .none kV__law_own_deed dc__law_own_deed pm__law_own_deed an__law_own_deed cd__law_own_deed ct__law_own_deed, f_deed_by, PySem.W.fnOf "deed_by" "deed_by" (defArgs s_deed_by) (defBody s_deed_by) (defScope s_deed_by) .none kV_deed_by dc_deed_by pm_deed_by an_deed_by cd_deed_by ct_deed_by, f_deeds_of, PySem.W.fnOf "deeds_of" "deeds_of" (defArgs s_deeds_of) (defBody s_deeds_of) (defScope s_deeds_of) .none kV_deeds_of dc_deeds_of pm_deeds_of an_deeds_of cd_deeds_of ct_deeds_of, fa, PySem.W.fnOf "law" "law" (defArgs s_law) (defBody s_law) (defScope s_law) .none kV_law dc_law pm_law an_law cd_law ct_law, C_Draws⟩ := { F__law_bag := F__law_bag, B__law_bag := B__law_bag, G__law_bag := PySem.W.mg_of X G a__law_bag, F__law_take := F__law_take, B__law_take := B__law_take, G__law_take := PySem.W.mg_of X G a__law_take, F__law_some := F__law_some, B__law_some := B__law_some, G__law_some := PySem.W.mg_of X G a__law_some, F__law_begun := F__law_begun, B__law_begun := B__law_begun, G__law_begun := PySem.W.mg_of X G a__law_begun, F_Draws___init__ := F_Draws___init__, B_Draws___init__ := B_Draws___init__, F_Draws_state := F_Draws_state, B_Draws_state := B_Draws_state, M_Draws_state := ⟨a_Draws_state, i_Draws_state, k_Draws_state⟩, F__law_draw := F__law_draw, B__law_draw := B__law_draw, G__law_draw := PySem.W.mg_of X G a__law_draw, F__law_alike := F__law_alike, B__law_alike := B__law_alike, G__law_alike := PySem.W.mg_of X G a__law_alike, F_Draws_take := F_Draws_take, B_Draws_take := B_Draws_take, M_Draws_take := ⟨a_Draws_take, i_Draws_take, k_Draws_take⟩, F_drawn_spans := F_drawn_spans, B_drawn_spans := B_drawn_spans, G_drawn_spans := PySem.W.mg_of X G a_drawn_spans, F_drawn_visits := F_drawn_visits, B_drawn_visits := B_drawn_visits, G_drawn_visits := PySem.W.mg_of X G a_drawn_visits, F__law_own_visits := F__law_own_visits, B__law_own_visits := B__law_own_visits, G__law_own_visits := PySem.W.mg_of X G a__law_own_visits, F_are_all := F_are_all, B_are_all := B_are_all, G_are_all := PySem.W.mg_of X G a_are_all, F_is_integer := F_is_integer, B_is_integer := B_is_integer, G_is_integer := PySem.W.mg_of X G a_is_integer, F_are_integers := F_are_integers, B_are_integers := B_are_integers, G_are_integers := PySem.W.mg_of X G a_are_integers, F_is_pair := F_is_pair, B_is_pair := B_is_pair, G_is_pair := PySem.W.mg_of X G a_is_pair, F_are_pairs := F_are_pairs, B_are_pairs := B_are_pairs, G_are_pairs := PySem.W.mg_of X G a_are_pairs, F_is_moment := F_is_moment, B_is_moment := B_is_moment, G_is_moment := PySem.W.mg_of X G a_is_moment, F_checked_visits := F_checked_visits, B_checked_visits := B_checked_visits, G_checked_visits := PySem.W.mg_of X G a_checked_visits, F_all_couples := F_all_couples, B_all_couples := B_all_couples, G_all_couples := PySem.W.mg_of X G a_all_couples, F_drawn_table := F_drawn_table, B_drawn_table := B_drawn_table, G_drawn_table := PySem.W.mg_of X G a_drawn_table, F__law_couples := F__law_couples, B__law_couples := B__law_couples, G__law_couples := PySem.W.mg_of X G a__law_couples, F__law_own_table := F__law_own_table, B__law_own_table := B__law_own_table, G__law_own_table := PySem.W.mg_of X G a__law_own_table, F_couple_fault := F_couple_fault, B_couple_fault := B_couple_fault, G_couple_fault := PySem.W.mg_of X G a_couple_fault, F_checked_table := F_checked_table, B_checked_table := B_checked_table, G_checked_table := PySem.W.mg_of X G a_checked_table, F__law_own_shifts := F__law_own_shifts, B__law_own_shifts := B__law_own_shifts, G__law_own_shifts := PySem.W.mg_of X G a__law_own_shifts, F__law_own_rank := F__law_own_rank, B__law_own_rank := B__law_own_rank, G__law_own_rank := PySem.W.mg_of X G a__law_own_rank, F_drawn_shifts := F_drawn_shifts, B_drawn_shifts := B_drawn_shifts, G_drawn_shifts := PySem.W.mg_of X G a_drawn_shifts, F_drawn_rank := F_drawn_rank, B_drawn_rank := B_drawn_rank, G_drawn_rank := PySem.W.mg_of X G a_drawn_rank, F_are_shifts := F_are_shifts, B_are_shifts := B_are_shifts, G_are_shifts := PySem.W.mg_of X G a_are_shifts, F__law_own_deed := F__law_own_deed, B__law_own_deed := B__law_own_deed, G__law_own_deed := PySem.W.mg_of X G a__law_own_deed, F_deed_by := F_deed_by, B_deed_by := B_deed_by, G_deed_by := PySem.W.mg_of X G a_deed_by, F_deeds_of := F_deeds_of, B_deeds_of := B_deeds_of, G_deeds_of := PySem.W.mg_of X G a_deeds_of, F_law := F_law, B_law := B_law, G_law := PySem.W.mg_of X G a_law, G_Draws := PySem.W.mg_of X G aC_Draws, K_Draws := ⟨pg_Draws, hd_Draws, po_Draws, sa_Draws⟩, M_Draws := ⟨mk_Draws, a_Draws___init__, i_Draws___init__, kc_Draws⟩, A_Draws_its_state := A_Draws_its_state, N_abs := PySem.W.mg_none_of X G N_abs, N_all := PySem.W.mg_none_of X G N_all, N_bool := PySem.W.mg_none_of X G N_bool, N_enumerate := PySem.W.mg_none_of X G N_enumerate, N_int := PySem.W.mg_none_of X G N_int, N_isinstance := PySem.W.mg_none_of X G N_isinstance, N_len := PySem.W.mg_none_of X G N_len, N_list := PySem.W.mg_none_of X G N_list, N_range := PySem.W.mg_none_of X G N_range, N_str := PySem.W.mg_none_of X G N_str, N_tuple := PySem.W.mg_none_of X G N_tuple, N_zip := PySem.W.mg_none_of X G N_zip, C_CUT := gd_int (PySem.W.mg_of X G C_CUT), C_FACTOR := gd_int (PySem.W.mg_of X G C_FACTOR), C_MODULUS := gd_int (PySem.W.mg_of X G C_MODULUS), C_MOST_MOMENT := gd_int (PySem.W.mg_of X G C_MOST_MOMENT), C_MOST_PEOPLE := gd_int (PySem.W.mg_of X G C_MOST_PEOPLE), C_MOST_SHIFTS := gd_int (PySem.W.mg_of X G C_MOST_SHIFTS), C_NAMES := gd_tup (PySem.W.mg_of X G C_NAMES) (tk_mk L_NAMES_0 Z_NAMES_0 (dk_cons (dk_atom E_NAMES_0_0) (dk_cons (dk_atom E_NAMES_0_1) (dk_cons (dk_atom E_NAMES_0_2) (dk_cons (dk_atom E_NAMES_0_3) (dk_cons (dk_atom E_NAMES_0_4) (dk_cons (dk_atom E_NAMES_0_5) (dk_nil S_NAMES_0)))))))), C_SUMMAND := gd_int (PySem.W.mg_of X G C_SUMMAND) }
  exact ⟨PySem.W.fnOf "law" "law" (defArgs s_law) (defBody s_law) (defScope s_law) .none kV_law dc_law pm_law an_law cd_law ct_law, fun s v => .of_eq rfl, fun base _ _ => law_imp (ok_law (base := base) T) hφ⟩

def nxt (z : Int) : Int := (z * 48271 + 11) % 2147483647
def dr (z m : Int) : Int := z / 7 % m
abbrev DrO (z : Int) : Ob := .ins "Draws" [("its_state", .int z)]
abbrev OwO (z : Int) : Ob := .lst [.int z]
theorem lkS {d : D} : List.lookup ("its_state" : Str) [(("its_state" : Str), d)] = some d := rfl
theorem noTake {d : D} : List.lookup ("take" : Str) [(("its_state" : Str), d)] = none := rfl
theorem noState {d : D} : List.lookup ("state" : Str) [(("its_state" : Str), d)] = none := rfl
theorem mtT {S : Sto} {E : Vn} {ms : M (List SV)} {k n : Nat} {d : D} {φ : List SV → Sto → Out SV} : mtK ("take" : Str) n φ ms E S (some (k, [(("its_state" : Str), d)])) = mtL n k φ (ms E S) := mt_p rfl
theorem mtS {S : Sto} {E : Vn} {ms : M (List SV)} {k n : Nat} {d : D} {φ : List SV → Sto → Out SV} : mtK ("state" : Str) n φ ms E S (some (k, [(("its_state" : Str), d)])) = mtL n k φ (ms E S) := mt_p rfl
theorem nxt_lo (z : Int) : 0 ≤ nxt z := Int.emod_nonneg _ (by omega)
theorem nxt_hi (z : Int) : nxt z < 2147483647 := Int.emod_lt_of_pos _ (by omega)
theorem Draws_take_ok {S : Sto} {k : Nat} {z m : Int} (h : S[k]? = some (DrO z)) (h1 : 0 ≤ z) (h2 : z < 2147483647) (hm : 0 < m) :
    p_Draws_take [.r k, .d (.int m)] S = .ok (.d (.int (dr (nxt z) m))) (S.set k (DrO (nxt z))) := by
  have c1 : CMul z 48271 := cmulL h1 (by omega)
  unfold p_Draws_take
  simp [m_Draws_take, Z.r_var, Z.r_varK, Z.r_C, Z.r_fn, Z.r_yes, Z.rd_d, Z.rd_r, Z.rdK_l, Z.rdK_f, Z.r_on1, Z.r_on2, Z.o1_s, Z.o2_s, Z.r_outN, Z.oK_v, Z.oK_l, Z.r_m1, Z.m1_o, Z.r_m2, Z.m2_o, Z.m2_p, Z.r_mB, Z.mB_o, Z.r_nil, Z.r_cons, Z.cn_o, Z.cn_p, Z.a1_s, Z.a2_s, Z.pu_nil, Z.pu_cons, Z.puK_s, Z.r_tup, Z.r_lst, Z.tp_s, Z.lt_s, Z.okLen_if, Z.r_fz, Z.fz_d, Z.fz_f, Z.fz_s, Z.fz_r, Z.fzR_l, Z.fzR_f, Z.r_T, Z.t_o, Z.tL_b, Z.r_not, Z.nt_o, Z.r_and, Z.r_or, Z.an_t, Z.an_f, Z.or_t, Z.or_f, Z.r_seq, Z.sq_n, Z.sq_r, Z.sq_b, Z.sq_c, Z.r_drop, Z.dr_o, Z.r_ret, Z.rt_o, Z.r_retN, Z.r_if, Z.if_o, Z.if_t', Z.if_f', Z.r_skip, Z.r_bk, Z.r_ct, Z.r_set, Z.st_o, Z.r_asg, Z.as_o, Z.as_p, Z.g_nm, Z.g_tp, Z.g_nil, Z.g_cons, Z.gc_o, Z.r_par, Z.pr_o, Z.pr_p, Z.sA_nil, Z.sA_cons, Z.r_fnM, Z.fn_n, Z.fn_d, Z.fn_r, Z.fr_l, Z.fr_f, Z.fr_i, Z.r_call, Z.cl_o, Z.r_callV, Z.cv_s, Z.in_r, Z.in_s, Z.r_fld, Z.fd_o, Z.fd_p, Z.fd_q, Z.r_setF, Z.sf_o, Z.sf_p, Z.sf_q, Z.r_meth, Z.mt_o, Z.mt_p, Z.mt_q, Z.r_make, Z.mk_o, Z.mk_p, Z.r_mt, Z.mm_o, Z.mm_p, Z.mm_q, Z.mm_r, Z.mm_s, Z.f_app, Z.f_ext, Z.ex_s, Z.f_popAt, Z.r_setIx, Z.si_o, Z.si_p, Z.si_q, Z.si_r, Z.sl_s, Z.r_augIx, Z.ai_o, Z.ai_p, Z.ai_q, Z.ai_r, Z.ai_s, Z.r_getL, Z.gl_s, Z.ip_add, Z.ip_sub, Z.r_aug, Z.ag_o, Z.ag_p, Z.ag_q, Z.r_ifE, Z.i_t, Z.i_f, Z.i_o, Z.r_andV, Z.av_o, Z.av_t, Z.av_f, Z.onB_K, Z.oBK_s, Z.r_chain, Z.ch_a, Z.ch_b, Z.ch_t, Z.ch_f, Z.ch_d, Z.ch_e, Z.r_chain3, Z.c3_a, Z.c3_b, Z.c3_t, Z.c3_f, Z.c3_d, Z.r_sl, Z.sl_a, Z.sl_b, Z.sl_c, Z.pt_n, Z.pt_s, Z.pt_o, Z.pt_i, Z.gs_d, Z.gs_r, Z.gs_s, Z.gSl_l, Z.gSl_t, Z.r_it, Z.it_l, Z.it_t, Z.r_enum, Z.en_l, Z.en_t, Z.r_rng1, Z.r_rng2, Z.r1_o, Z.r2_o, Z.r_for, Z.fo_o, Z.bd_o, Z.for_nil, Z.fl_n, Z.fl_c, Z.fl_b, Z.fl_r, Z.wc_t, Z.wc_f, Z.wb_n, Z.wb_r, Z.lc_nil, Z.lc_z, Z.lc_t, Z.lc_f, Z.lc_b, Z.lc_c, Z.r_lc, Z.lm_o, Z.lm_p, Z.gAdd_ii, Z.gAdd_ll, Z.gAdd_tt, Z.gSub_ii, Z.gMul_ii, Z.gDiv_ii, Z.gMod_ii, Z.gPow_ii, Z.gNeg_i, Z.bV_s, Z.gIx_l, Z.gIx_t, Z.gLen_l, Z.gLen_t, Z.gTup_l, Z.gTup_t, Z.gLst_l, Z.gLst_t, Z.gInt_i, Z.gInt_b, Z.gAbs_i, Z.gNot_b, Z.gZip_tt, Z.gZip_ll, Z.gAll_l, Z.gAny_l, Z.gSum_l, Z.gLRg1, Z.atI_0, Z.atI_1, Z.atI_2, Z.atI_3, Z.gS0, Z.gSj, Z.tS0, Z.tSj, Z.sS0, Z.sSj, Z.tSe, Z.r_lc2, Z.l2_o, Z.tL_l, Z.tL_t, Z.tL_i, Z.blsOf_true, Z.all_true, gEq_ii, gNe_ii, gEq_bb, gNe_bb, gLt_ii, gLe_ii, gGt_ii, gGe_ii, sub_sub_drop, HT.sIx_none, take_self, take_set, len_set, set_set, r_setL, putD, ixN, lkS, h, c1, k_FACTOR, k_SUMMAND, k_MODULUS, k_CUT, get_set h, hm, cdiv7, nxt, dr]
theorem law_draw_ok {S : Sto} {k : Nat} {z m : Int} (h : S[k]? = some (OwO z)) (h1 : 0 ≤ z) (h2 : z < 2147483647) (hm : 0 < m) :
    p__law_draw [.r k, .d (.int m)] S = .ok (.d (.int (dr (nxt z) m))) (S.set k (OwO (nxt z))) := by
  have c1 : CMul z 48271 := cmulL h1 (by omega)
  unfold p__law_draw
  simp [m__law_draw, Z.r_var, Z.r_varK, Z.r_C, Z.r_fn, Z.r_yes, Z.rd_d, Z.rd_r, Z.rdK_l, Z.rdK_f, Z.r_on1, Z.r_on2, Z.o1_s, Z.o2_s, Z.r_outN, Z.oK_v, Z.oK_l, Z.r_m1, Z.m1_o, Z.r_m2, Z.m2_o, Z.m2_p, Z.r_mB, Z.mB_o, Z.r_nil, Z.r_cons, Z.cn_o, Z.cn_p, Z.a1_s, Z.a2_s, Z.pu_nil, Z.pu_cons, Z.puK_s, Z.r_tup, Z.r_lst, Z.tp_s, Z.lt_s, Z.okLen_if, Z.r_fz, Z.fz_d, Z.fz_f, Z.fz_s, Z.fz_r, Z.fzR_l, Z.fzR_f, Z.r_T, Z.t_o, Z.tL_b, Z.r_not, Z.nt_o, Z.r_and, Z.r_or, Z.an_t, Z.an_f, Z.or_t, Z.or_f, Z.r_seq, Z.sq_n, Z.sq_r, Z.sq_b, Z.sq_c, Z.r_drop, Z.dr_o, Z.r_ret, Z.rt_o, Z.r_retN, Z.r_if, Z.if_o, Z.if_t', Z.if_f', Z.r_skip, Z.r_bk, Z.r_ct, Z.r_set, Z.st_o, Z.r_asg, Z.as_o, Z.as_p, Z.g_nm, Z.g_tp, Z.g_nil, Z.g_cons, Z.gc_o, Z.r_par, Z.pr_o, Z.pr_p, Z.sA_nil, Z.sA_cons, Z.r_fnM, Z.fn_n, Z.fn_d, Z.fn_r, Z.fr_l, Z.fr_f, Z.fr_i, Z.r_call, Z.cl_o, Z.r_callV, Z.cv_s, Z.in_r, Z.in_s, Z.r_fld, Z.fd_o, Z.fd_p, Z.fd_q, Z.r_setF, Z.sf_o, Z.sf_p, Z.sf_q, Z.r_meth, Z.mt_o, Z.mt_p, Z.mt_q, Z.r_make, Z.mk_o, Z.mk_p, Z.r_mt, Z.mm_o, Z.mm_p, Z.mm_q, Z.mm_r, Z.mm_s, Z.f_app, Z.f_ext, Z.ex_s, Z.f_popAt, Z.r_setIx, Z.si_o, Z.si_p, Z.si_q, Z.si_r, Z.sl_s, Z.r_augIx, Z.ai_o, Z.ai_p, Z.ai_q, Z.ai_r, Z.ai_s, Z.r_getL, Z.gl_s, Z.ip_add, Z.ip_sub, Z.r_aug, Z.ag_o, Z.ag_p, Z.ag_q, Z.r_ifE, Z.i_t, Z.i_f, Z.i_o, Z.r_andV, Z.av_o, Z.av_t, Z.av_f, Z.onB_K, Z.oBK_s, Z.r_chain, Z.ch_a, Z.ch_b, Z.ch_t, Z.ch_f, Z.ch_d, Z.ch_e, Z.r_chain3, Z.c3_a, Z.c3_b, Z.c3_t, Z.c3_f, Z.c3_d, Z.r_sl, Z.sl_a, Z.sl_b, Z.sl_c, Z.pt_n, Z.pt_s, Z.pt_o, Z.pt_i, Z.gs_d, Z.gs_r, Z.gs_s, Z.gSl_l, Z.gSl_t, Z.r_it, Z.it_l, Z.it_t, Z.r_enum, Z.en_l, Z.en_t, Z.r_rng1, Z.r_rng2, Z.r1_o, Z.r2_o, Z.r_for, Z.fo_o, Z.bd_o, Z.for_nil, Z.fl_n, Z.fl_c, Z.fl_b, Z.fl_r, Z.wc_t, Z.wc_f, Z.wb_n, Z.wb_r, Z.lc_nil, Z.lc_z, Z.lc_t, Z.lc_f, Z.lc_b, Z.lc_c, Z.r_lc, Z.lm_o, Z.lm_p, Z.gAdd_ii, Z.gAdd_ll, Z.gAdd_tt, Z.gSub_ii, Z.gMul_ii, Z.gDiv_ii, Z.gMod_ii, Z.gPow_ii, Z.gNeg_i, Z.bV_s, Z.gIx_l, Z.gIx_t, Z.gLen_l, Z.gLen_t, Z.gTup_l, Z.gTup_t, Z.gLst_l, Z.gLst_t, Z.gInt_i, Z.gInt_b, Z.gAbs_i, Z.gNot_b, Z.gZip_tt, Z.gZip_ll, Z.gAll_l, Z.gAny_l, Z.gSum_l, Z.gLRg1, Z.atI_0, Z.atI_1, Z.atI_2, Z.atI_3, Z.gS0, Z.gSj, Z.tS0, Z.tSj, Z.sS0, Z.sSj, Z.tSe, Z.r_lc2, Z.l2_o, Z.tL_l, Z.tL_t, Z.tL_i, Z.blsOf_true, Z.all_true, gEq_ii, gNe_ii, gEq_bb, gNe_bb, gLt_ii, gLe_ii, gGt_ii, gGe_ii, sub_sub_drop, HT.sIx_none, take_self, take_set, len_set, set_set, r_setL, putD, ixN, h, c1, get_set h, hm, cdiv7, nxt, dr, atI, ixN]
theorem law_begun_ok {S : Sto} {z : Int} : p__law_begun [.d (.int z)] S = .ok (.r S.length) (S ++ [OwO (z % 2147483647)]) := by
  unfold p__law_begun
  simp [m__law_begun, Z.r_var, Z.r_varK, Z.r_C, Z.r_fn, Z.r_yes, Z.rd_d, Z.rd_r, Z.rdK_l, Z.rdK_f, Z.r_on1, Z.r_on2, Z.o1_s, Z.o2_s, Z.r_outN, Z.oK_v, Z.oK_l, Z.r_m1, Z.m1_o, Z.r_m2, Z.m2_o, Z.m2_p, Z.r_mB, Z.mB_o, Z.r_nil, Z.r_cons, Z.cn_o, Z.cn_p, Z.a1_s, Z.a2_s, Z.pu_nil, Z.pu_cons, Z.puK_s, Z.r_tup, Z.r_lst, Z.tp_s, Z.lt_s, Z.okLen_if, Z.r_fz, Z.fz_d, Z.fz_f, Z.fz_s, Z.fz_r, Z.fzR_l, Z.fzR_f, Z.r_T, Z.t_o, Z.tL_b, Z.r_not, Z.nt_o, Z.r_and, Z.r_or, Z.an_t, Z.an_f, Z.or_t, Z.or_f, Z.r_seq, Z.sq_n, Z.sq_r, Z.sq_b, Z.sq_c, Z.r_drop, Z.dr_o, Z.r_ret, Z.rt_o, Z.r_retN, Z.r_if, Z.if_o, Z.if_t', Z.if_f', Z.r_skip, Z.r_bk, Z.r_ct, Z.r_set, Z.st_o, Z.r_asg, Z.as_o, Z.as_p, Z.g_nm, Z.g_tp, Z.g_nil, Z.g_cons, Z.gc_o, Z.r_par, Z.pr_o, Z.pr_p, Z.sA_nil, Z.sA_cons, Z.r_fnM, Z.fn_n, Z.fn_d, Z.fn_r, Z.fr_l, Z.fr_f, Z.fr_i, Z.r_call, Z.cl_o, Z.r_callV, Z.cv_s, Z.in_r, Z.in_s, Z.r_fld, Z.fd_o, Z.fd_p, Z.fd_q, Z.r_setF, Z.sf_o, Z.sf_p, Z.sf_q, Z.r_meth, Z.mt_o, Z.mt_p, Z.mt_q, Z.r_make, Z.mk_o, Z.mk_p, Z.r_mt, Z.mm_o, Z.mm_p, Z.mm_q, Z.mm_r, Z.mm_s, Z.f_app, Z.f_ext, Z.ex_s, Z.f_popAt, Z.r_setIx, Z.si_o, Z.si_p, Z.si_q, Z.si_r, Z.sl_s, Z.r_augIx, Z.ai_o, Z.ai_p, Z.ai_q, Z.ai_r, Z.ai_s, Z.r_getL, Z.gl_s, Z.ip_add, Z.ip_sub, Z.r_aug, Z.ag_o, Z.ag_p, Z.ag_q, Z.r_ifE, Z.i_t, Z.i_f, Z.i_o, Z.r_andV, Z.av_o, Z.av_t, Z.av_f, Z.onB_K, Z.oBK_s, Z.r_chain, Z.ch_a, Z.ch_b, Z.ch_t, Z.ch_f, Z.ch_d, Z.ch_e, Z.r_chain3, Z.c3_a, Z.c3_b, Z.c3_t, Z.c3_f, Z.c3_d, Z.r_sl, Z.sl_a, Z.sl_b, Z.sl_c, Z.pt_n, Z.pt_s, Z.pt_o, Z.pt_i, Z.gs_d, Z.gs_r, Z.gs_s, Z.gSl_l, Z.gSl_t, Z.r_it, Z.it_l, Z.it_t, Z.r_enum, Z.en_l, Z.en_t, Z.r_rng1, Z.r_rng2, Z.r1_o, Z.r2_o, Z.r_for, Z.fo_o, Z.bd_o, Z.for_nil, Z.fl_n, Z.fl_c, Z.fl_b, Z.fl_r, Z.wc_t, Z.wc_f, Z.wb_n, Z.wb_r, Z.lc_nil, Z.lc_z, Z.lc_t, Z.lc_f, Z.lc_b, Z.lc_c, Z.r_lc, Z.lm_o, Z.lm_p, Z.gAdd_ii, Z.gAdd_ll, Z.gAdd_tt, Z.gSub_ii, Z.gMul_ii, Z.gDiv_ii, Z.gMod_ii, Z.gPow_ii, Z.gNeg_i, Z.bV_s, Z.gIx_l, Z.gIx_t, Z.gLen_l, Z.gLen_t, Z.gTup_l, Z.gTup_t, Z.gLst_l, Z.gLst_t, Z.gInt_i, Z.gInt_b, Z.gAbs_i, Z.gNot_b, Z.gZip_tt, Z.gZip_ll, Z.gAll_l, Z.gAny_l, Z.gSum_l, Z.gLRg1, Z.atI_0, Z.atI_1, Z.atI_2, Z.atI_3, Z.gS0, Z.gSj, Z.tS0, Z.tSj, Z.sS0, Z.sSj, Z.tSe, Z.r_lc2, Z.l2_o, Z.tL_l, Z.tL_t, Z.tL_i, Z.blsOf_true, Z.all_true, gEq_ii, gNe_ii, gEq_bb, gNe_bb, gLt_ii, gLe_ii, gGt_ii, gGe_ii, sub_sub_drop, HT.sIx_none, take_self, take_set, len_set, set_set, r_setL, putD, ixN]
theorem Draws_init_ok {S : Sto} {k : Nat} {z : Int} (h : S[k]? = some (.ins "Draws" [])) : p_Draws___init__ [.r k, .d (.int z)] S = .ok (.d .none) (S.set k (DrO (z % 2147483647))) := by
  unfold p_Draws___init__
  simp [m_Draws___init__, Z.r_var, Z.r_varK, Z.r_C, Z.r_fn, Z.r_yes, Z.rd_d, Z.rd_r, Z.rdK_l, Z.rdK_f, Z.r_on1, Z.r_on2, Z.o1_s, Z.o2_s, Z.r_outN, Z.oK_v, Z.oK_l, Z.r_m1, Z.m1_o, Z.r_m2, Z.m2_o, Z.m2_p, Z.r_mB, Z.mB_o, Z.r_nil, Z.r_cons, Z.cn_o, Z.cn_p, Z.a1_s, Z.a2_s, Z.pu_nil, Z.pu_cons, Z.puK_s, Z.r_tup, Z.r_lst, Z.tp_s, Z.lt_s, Z.okLen_if, Z.r_fz, Z.fz_d, Z.fz_f, Z.fz_s, Z.fz_r, Z.fzR_l, Z.fzR_f, Z.r_T, Z.t_o, Z.tL_b, Z.r_not, Z.nt_o, Z.r_and, Z.r_or, Z.an_t, Z.an_f, Z.or_t, Z.or_f, Z.r_seq, Z.sq_n, Z.sq_r, Z.sq_b, Z.sq_c, Z.r_drop, Z.dr_o, Z.r_ret, Z.rt_o, Z.r_retN, Z.r_if, Z.if_o, Z.if_t', Z.if_f', Z.r_skip, Z.r_bk, Z.r_ct, Z.r_set, Z.st_o, Z.r_asg, Z.as_o, Z.as_p, Z.g_nm, Z.g_tp, Z.g_nil, Z.g_cons, Z.gc_o, Z.r_par, Z.pr_o, Z.pr_p, Z.sA_nil, Z.sA_cons, Z.r_fnM, Z.fn_n, Z.fn_d, Z.fn_r, Z.fr_l, Z.fr_f, Z.fr_i, Z.r_call, Z.cl_o, Z.r_callV, Z.cv_s, Z.in_r, Z.in_s, Z.r_fld, Z.fd_o, Z.fd_p, Z.fd_q, Z.r_setF, Z.sf_o, Z.sf_p, Z.sf_q, Z.r_meth, Z.mt_o, Z.mt_p, Z.mt_q, Z.r_make, Z.mk_o, Z.mk_p, Z.r_mt, Z.mm_o, Z.mm_p, Z.mm_q, Z.mm_r, Z.mm_s, Z.f_app, Z.f_ext, Z.ex_s, Z.f_popAt, Z.r_setIx, Z.si_o, Z.si_p, Z.si_q, Z.si_r, Z.sl_s, Z.r_augIx, Z.ai_o, Z.ai_p, Z.ai_q, Z.ai_r, Z.ai_s, Z.r_getL, Z.gl_s, Z.ip_add, Z.ip_sub, Z.r_aug, Z.ag_o, Z.ag_p, Z.ag_q, Z.r_ifE, Z.i_t, Z.i_f, Z.i_o, Z.r_andV, Z.av_o, Z.av_t, Z.av_f, Z.onB_K, Z.oBK_s, Z.r_chain, Z.ch_a, Z.ch_b, Z.ch_t, Z.ch_f, Z.ch_d, Z.ch_e, Z.r_chain3, Z.c3_a, Z.c3_b, Z.c3_t, Z.c3_f, Z.c3_d, Z.r_sl, Z.sl_a, Z.sl_b, Z.sl_c, Z.pt_n, Z.pt_s, Z.pt_o, Z.pt_i, Z.gs_d, Z.gs_r, Z.gs_s, Z.gSl_l, Z.gSl_t, Z.r_it, Z.it_l, Z.it_t, Z.r_enum, Z.en_l, Z.en_t, Z.r_rng1, Z.r_rng2, Z.r1_o, Z.r2_o, Z.r_for, Z.fo_o, Z.bd_o, Z.for_nil, Z.fl_n, Z.fl_c, Z.fl_b, Z.fl_r, Z.wc_t, Z.wc_f, Z.wb_n, Z.wb_r, Z.lc_nil, Z.lc_z, Z.lc_t, Z.lc_f, Z.lc_b, Z.lc_c, Z.r_lc, Z.lm_o, Z.lm_p, Z.gAdd_ii, Z.gAdd_ll, Z.gAdd_tt, Z.gSub_ii, Z.gMul_ii, Z.gDiv_ii, Z.gMod_ii, Z.gPow_ii, Z.gNeg_i, Z.bV_s, Z.gIx_l, Z.gIx_t, Z.gLen_l, Z.gLen_t, Z.gTup_l, Z.gTup_t, Z.gLst_l, Z.gLst_t, Z.gInt_i, Z.gInt_b, Z.gAbs_i, Z.gNot_b, Z.gZip_tt, Z.gZip_ll, Z.gAll_l, Z.gAny_l, Z.gSum_l, Z.gLRg1, Z.atI_0, Z.atI_1, Z.atI_2, Z.atI_3, Z.gS0, Z.gSj, Z.tS0, Z.tSj, Z.sS0, Z.sSj, Z.tSe, Z.r_lc2, Z.l2_o, Z.tL_l, Z.tL_t, Z.tL_i, Z.blsOf_true, Z.all_true, gEq_ii, gNe_ii, gEq_bb, gNe_bb, gLt_ii, gLe_ii, gGt_ii, gGe_ii, sub_sub_drop, HT.sIx_none, take_self, take_set, len_set, set_set, r_setL, putD, ixN, h, k_MODULUS]
theorem Draws_state_ok {S : Sto} {k : Nat} {z : Int} (h : S[k]? = some (DrO z)) : p_Draws_state [.r k] S = .ok (.d (.int z)) S := by
  unfold p_Draws_state
  simp [m_Draws_state, Z.r_var, Z.r_varK, Z.r_C, Z.r_fn, Z.r_yes, Z.rd_d, Z.rd_r, Z.rdK_l, Z.rdK_f, Z.r_on1, Z.r_on2, Z.o1_s, Z.o2_s, Z.r_outN, Z.oK_v, Z.oK_l, Z.r_m1, Z.m1_o, Z.r_m2, Z.m2_o, Z.m2_p, Z.r_mB, Z.mB_o, Z.r_nil, Z.r_cons, Z.cn_o, Z.cn_p, Z.a1_s, Z.a2_s, Z.pu_nil, Z.pu_cons, Z.puK_s, Z.r_tup, Z.r_lst, Z.tp_s, Z.lt_s, Z.okLen_if, Z.r_fz, Z.fz_d, Z.fz_f, Z.fz_s, Z.fz_r, Z.fzR_l, Z.fzR_f, Z.r_T, Z.t_o, Z.tL_b, Z.r_not, Z.nt_o, Z.r_and, Z.r_or, Z.an_t, Z.an_f, Z.or_t, Z.or_f, Z.r_seq, Z.sq_n, Z.sq_r, Z.sq_b, Z.sq_c, Z.r_drop, Z.dr_o, Z.r_ret, Z.rt_o, Z.r_retN, Z.r_if, Z.if_o, Z.if_t', Z.if_f', Z.r_skip, Z.r_bk, Z.r_ct, Z.r_set, Z.st_o, Z.r_asg, Z.as_o, Z.as_p, Z.g_nm, Z.g_tp, Z.g_nil, Z.g_cons, Z.gc_o, Z.r_par, Z.pr_o, Z.pr_p, Z.sA_nil, Z.sA_cons, Z.r_fnM, Z.fn_n, Z.fn_d, Z.fn_r, Z.fr_l, Z.fr_f, Z.fr_i, Z.r_call, Z.cl_o, Z.r_callV, Z.cv_s, Z.in_r, Z.in_s, Z.r_fld, Z.fd_o, Z.fd_p, Z.fd_q, Z.r_setF, Z.sf_o, Z.sf_p, Z.sf_q, Z.r_meth, Z.mt_o, Z.mt_p, Z.mt_q, Z.r_make, Z.mk_o, Z.mk_p, Z.r_mt, Z.mm_o, Z.mm_p, Z.mm_q, Z.mm_r, Z.mm_s, Z.f_app, Z.f_ext, Z.ex_s, Z.f_popAt, Z.r_setIx, Z.si_o, Z.si_p, Z.si_q, Z.si_r, Z.sl_s, Z.r_augIx, Z.ai_o, Z.ai_p, Z.ai_q, Z.ai_r, Z.ai_s, Z.r_getL, Z.gl_s, Z.ip_add, Z.ip_sub, Z.r_aug, Z.ag_o, Z.ag_p, Z.ag_q, Z.r_ifE, Z.i_t, Z.i_f, Z.i_o, Z.r_andV, Z.av_o, Z.av_t, Z.av_f, Z.onB_K, Z.oBK_s, Z.r_chain, Z.ch_a, Z.ch_b, Z.ch_t, Z.ch_f, Z.ch_d, Z.ch_e, Z.r_chain3, Z.c3_a, Z.c3_b, Z.c3_t, Z.c3_f, Z.c3_d, Z.r_sl, Z.sl_a, Z.sl_b, Z.sl_c, Z.pt_n, Z.pt_s, Z.pt_o, Z.pt_i, Z.gs_d, Z.gs_r, Z.gs_s, Z.gSl_l, Z.gSl_t, Z.r_it, Z.it_l, Z.it_t, Z.r_enum, Z.en_l, Z.en_t, Z.r_rng1, Z.r_rng2, Z.r1_o, Z.r2_o, Z.r_for, Z.fo_o, Z.bd_o, Z.for_nil, Z.fl_n, Z.fl_c, Z.fl_b, Z.fl_r, Z.wc_t, Z.wc_f, Z.wb_n, Z.wb_r, Z.lc_nil, Z.lc_z, Z.lc_t, Z.lc_f, Z.lc_b, Z.lc_c, Z.r_lc, Z.lm_o, Z.lm_p, Z.gAdd_ii, Z.gAdd_ll, Z.gAdd_tt, Z.gSub_ii, Z.gMul_ii, Z.gDiv_ii, Z.gMod_ii, Z.gPow_ii, Z.gNeg_i, Z.bV_s, Z.gIx_l, Z.gIx_t, Z.gLen_l, Z.gLen_t, Z.gTup_l, Z.gTup_t, Z.gLst_l, Z.gLst_t, Z.gInt_i, Z.gInt_b, Z.gAbs_i, Z.gNot_b, Z.gZip_tt, Z.gZip_ll, Z.gAll_l, Z.gAny_l, Z.gSum_l, Z.gLRg1, Z.atI_0, Z.atI_1, Z.atI_2, Z.atI_3, Z.gS0, Z.gSj, Z.tS0, Z.tSj, Z.sS0, Z.sSj, Z.tSe, Z.r_lc2, Z.l2_o, Z.tL_l, Z.tL_t, Z.tL_i, Z.blsOf_true, Z.all_true, gEq_ii, gNe_ii, gEq_bb, gNe_bb, gLt_ii, gLe_ii, gGt_ii, gGe_ii, sub_sub_drop, HT.sIx_none, take_self, take_set, len_set, set_set, r_setL, putD, ixN, lkS, h]

/-! ### the bag -/
def BagL (a b i : Int) (cs : List Int) : Ob := .lst [.int a, .int b, .int i, .list (cs.map PyData.int)]
structure BagOK (o : Ob) : Prop where
  ex : ∃ (a b : Int) (i : Nat) (cs : List Int), o = BagL a b i cs ∧ 0 ≤ a ∧ 0 ≤ b ∧ b < 2147483647 ∧ (∀ c ∈ cs, 0 ≤ c) ∧ cs.length ≤ 63
theorem cell_ok (cs : List Int) (h : ∀ c ∈ cs, 0 ≤ c) (hl : cs.length ≤ 63) (n : Nat) : (List.take (cs.length - n) (List.drop n (cs.map PyData.int)) = [] ∨ ∃ c L, List.take (cs.length - n) (List.drop n (cs.map PyData.int)) = .int c :: L ∧ 0 ≤ c ∧ L.length ≤ 16777214) := by
  rw [show cs.length = (cs.map PyData.int).length by rw [List.length_map], sub_sub_drop, ← List.map_drop]
  cases q : cs.drop n with
  | nil => exact .inl rfl
  | cons c l =>
    have hl2 : (cs.drop n).length ≤ 63 := by rw [List.length_drop]; omega
    rw [q, List.length_cons] at hl2
    exact .inr ⟨c, l.map .int, rfl, h c (List.mem_of_mem_drop (by rw [q]; simp)), by rw [List.length_map]; omega⟩
theorem bag_mk {a b : Int} {i : Nat} {cs : List Int} (h1 : 0 ≤ a) (h2 : 0 ≤ b) (h3 : b < 2147483647) (h4 : ∀ c ∈ cs, 0 ≤ c) (h5 : cs.length ≤ 63) : BagOK (BagL a b i cs) := ⟨⟨a, b, i, cs, rfl, h1, h2, h3, h4, h5⟩⟩
theorem emod_rng (x : Int) {m : Int} (h : 0 < m) : 0 ≤ x % m ∧ x % m < m := ⟨Int.emod_nonneg _ (by omega), Int.emod_lt_of_pos _ h⟩
def bagV (b : Int) : Int := ((b + 1) * 39373 % 1000000007 * ((b + 1) * 39373 % 1000000007)) % 998244353 * 30011 % 998244353
theorem takeO {o : Ob} {m : Int} (hb : BagOK o) (h0 : 0 < m) (h1 : m < 1073741824) :
    ∃ v o', (∀ (S : Sto) (k : Nat), S[k]? = some o → p__law_take [.r k, .d (.int m)] S = .ok (.d (.int v)) (S.set k o')) ∧ BagOK o' ∧ 0 ≤ v ∧ v < m := by
  obtain ⟨a, b, i, cs, rfl, ha, hb0, hb1, hcs, hl⟩ := hb.ex
  have c1 : CMul b 48271 := cmulL hb0 (by omega)
  have c2 : CMul 7919 ((i : Int) + 1) := cmulL (by omega) (by omega)
  have c3 : ∀ x : Int, CDiv x m := fun x => cdiv h0 h1
  have c4 : ∀ x : Int, CMul (x % 998244353) 30011 := fun x => cmulL (emod_rng x (by omega)).1 (by have := (emod_rng x (m := 998244353) (by omega)).2; omega)
  have c5 : ∀ x : Int, CMul (x % 1000000007) (x % 1000000007) := fun x => cmulL (emod_rng x (by omega)).1 (by have := (emod_rng x (m := 1000000007) (by omega)).2; omega)
  have c6 : ∀ x : Int, CMul (x % 2147483647 + 1) 39373 := fun x => by
    have := emod_rng x (m := 2147483647) (by omega)
    exact cmulL (by omega) (by omega)
  have c7 : CMul (b + 1) 39373 := cmulL (by omega) (by omega)
  by_cases ha0 : a = 0
  · subst ha0
    have key : ∃ c, 0 ≤ c ∧ ((List.take (cs.length - HT.sIx cs.length 0 (some (i : Int))) (List.drop (HT.sIx cs.length 0 (some (i : Int))) (cs.map PyData.int)) = [] ∧ c = 0) ∨ ∃ L, List.take (cs.length - HT.sIx cs.length 0 (some (i : Int))) (List.drop (HT.sIx cs.length 0 (some (i : Int))) (cs.map PyData.int)) = .int c :: L ∧ L.length ≤ 16777214) := by
      rcases cell_ok cs hcs hl (HT.sIx cs.length 0 (some (i : Int))) with q | ⟨c, L, q, h2, h3⟩
      · exact ⟨0, Int.le_refl _, .inl ⟨q, rfl⟩⟩
      · exact ⟨c, h2, .inr ⟨L, q, h3⟩⟩
    obtain ⟨c, hc, key⟩ := key
    by_cases big : 1000000000000000000 ≤ c
    · have cpos : 0 < c := by omega
      refine ⟨c % m, BagL (c / m) ((b * 48271 + c % 2147483647 + 7919 * ((i : Int) + 1)) % 2147483647) (i + 1 : Nat) cs, ?_, bag_mk (Int.ediv_nonneg hc (by omega)) (emod_rng _ (by omega)).1 (emod_rng _ (by omega)).2 hcs hl, (emod_rng _ h0).1, (emod_rng _ h0).2⟩
      intro S k h
      unfold BagL at h
      unfold p__law_take
      rcases key with ⟨q, q2⟩ | ⟨L, q, q2⟩
      · omega
      · simp [m__law_take, Z.r_var, Z.r_varK, Z.r_C, Z.r_fn, Z.r_yes, Z.rd_d, Z.rd_r, Z.rdK_l, Z.rdK_f, Z.r_on1, Z.r_on2, Z.o1_s, Z.o2_s, Z.r_outN, Z.oK_v, Z.oK_l, Z.r_m1, Z.m1_o, Z.r_m2, Z.m2_o, Z.m2_p, Z.r_mB, Z.mB_o, Z.r_nil, Z.r_cons, Z.cn_o, Z.cn_p, Z.a1_s, Z.a2_s, Z.pu_nil, Z.pu_cons, Z.puK_s, Z.r_tup, Z.r_lst, Z.tp_s, Z.lt_s, Z.okLen_if, Z.r_fz, Z.fz_d, Z.fz_f, Z.fz_s, Z.fz_r, Z.fzR_l, Z.fzR_f, Z.r_T, Z.t_o, Z.tL_b, Z.r_not, Z.nt_o, Z.r_and, Z.r_or, Z.an_t, Z.an_f, Z.or_t, Z.or_f, Z.r_seq, Z.sq_n, Z.sq_r, Z.sq_b, Z.sq_c, Z.r_drop, Z.dr_o, Z.r_ret, Z.rt_o, Z.r_retN, Z.r_if, Z.if_o, Z.if_t', Z.if_f', Z.r_skip, Z.r_bk, Z.r_ct, Z.r_set, Z.st_o, Z.r_asg, Z.as_o, Z.as_p, Z.g_nm, Z.g_tp, Z.g_nil, Z.g_cons, Z.gc_o, Z.r_par, Z.pr_o, Z.pr_p, Z.sA_nil, Z.sA_cons, Z.r_fnM, Z.fn_n, Z.fn_d, Z.fn_r, Z.fr_l, Z.fr_f, Z.fr_i, Z.r_call, Z.cl_o, Z.r_callV, Z.cv_s, Z.in_r, Z.in_s, Z.r_fld, Z.fd_o, Z.fd_p, Z.fd_q, Z.r_setF, Z.sf_o, Z.sf_p, Z.sf_q, Z.r_meth, Z.mt_o, Z.mt_p, Z.mt_q, Z.r_make, Z.mk_o, Z.mk_p, Z.r_mt, Z.mm_o, Z.mm_p, Z.mm_q, Z.mm_r, Z.mm_s, Z.f_app, Z.f_ext, Z.ex_s, Z.f_popAt, Z.r_setIx, Z.si_o, Z.si_p, Z.si_q, Z.si_r, Z.sl_s, Z.r_augIx, Z.ai_o, Z.ai_p, Z.ai_q, Z.ai_r, Z.ai_s, Z.r_getL, Z.gl_s, Z.ip_add, Z.ip_sub, Z.r_aug, Z.ag_o, Z.ag_p, Z.ag_q, Z.r_ifE, Z.i_t, Z.i_f, Z.i_o, Z.r_andV, Z.av_o, Z.av_t, Z.av_f, Z.onB_K, Z.oBK_s, Z.r_chain, Z.ch_a, Z.ch_b, Z.ch_t, Z.ch_f, Z.ch_d, Z.ch_e, Z.r_chain3, Z.c3_a, Z.c3_b, Z.c3_t, Z.c3_f, Z.c3_d, Z.r_sl, Z.sl_a, Z.sl_b, Z.sl_c, Z.pt_n, Z.pt_s, Z.pt_o, Z.pt_i, Z.gs_d, Z.gs_r, Z.gs_s, Z.gSl_l, Z.gSl_t, Z.r_it, Z.it_l, Z.it_t, Z.r_enum, Z.en_l, Z.en_t, Z.r_rng1, Z.r_rng2, Z.r1_o, Z.r2_o, Z.r_for, Z.fo_o, Z.bd_o, Z.for_nil, Z.fl_n, Z.fl_c, Z.fl_b, Z.fl_r, Z.wc_t, Z.wc_f, Z.wb_n, Z.wb_r, Z.lc_nil, Z.lc_z, Z.lc_t, Z.lc_f, Z.lc_b, Z.lc_c, Z.r_lc, Z.lm_o, Z.lm_p, Z.gAdd_ii, Z.gAdd_ll, Z.gAdd_tt, Z.gSub_ii, Z.gMul_ii, Z.gDiv_ii, Z.gMod_ii, Z.gPow_ii, Z.gNeg_i, Z.bV_s, Z.gIx_l, Z.gIx_t, Z.gLen_l, Z.gLen_t, Z.gTup_l, Z.gTup_t, Z.gLst_l, Z.gLst_t, Z.gInt_i, Z.gInt_b, Z.gAbs_i, Z.gNot_b, Z.gZip_tt, Z.gZip_ll, Z.gAll_l, Z.gAny_l, Z.gSum_l, Z.gLRg1, Z.atI_0, Z.atI_1, Z.atI_2, Z.atI_3, Z.gS0, Z.gSj, Z.tS0, Z.tSj, Z.sS0, Z.sSj, Z.tSe, Z.r_lc2, Z.l2_o, Z.tL_l, Z.tL_t, Z.tL_i, Z.blsOf_true, Z.all_true, gEq_ii, gNe_ii, gEq_bb, gNe_bb, gLt_ii, gLe_ii, gGt_ii, gGe_ii, sub_sub_drop, HT.sIx_none, take_self, take_set, len_set, set_set, r_setL, putD, ixN, h, get_set h, get_app h, cpow18, c1, c2, c3, q, q2, big, cpos, h0, BagL]
    · refine ⟨bagV ((b * 48271 + c % 2147483647 + 7919 * ((i : Int) + 1)) % 2147483647) / 7 % m, BagL 0 ((b * 48271 + c % 2147483647 + 7919 * ((i : Int) + 1)) % 2147483647) (i + 1 : Nat) cs, ?_, bag_mk (Int.le_refl _) (emod_rng _ (by omega)).1 (emod_rng _ (by omega)).2 hcs hl, (emod_rng _ h0).1, (emod_rng _ h0).2⟩
      intro S k h
      unfold BagL at h
      unfold p__law_take
      rcases key with ⟨q, rfl⟩ | ⟨L, q, q2⟩
      · simp [m__law_take, Z.r_var, Z.r_varK, Z.r_C, Z.r_fn, Z.r_yes, Z.rd_d, Z.rd_r, Z.rdK_l, Z.rdK_f, Z.r_on1, Z.r_on2, Z.o1_s, Z.o2_s, Z.r_outN, Z.oK_v, Z.oK_l, Z.r_m1, Z.m1_o, Z.r_m2, Z.m2_o, Z.m2_p, Z.r_mB, Z.mB_o, Z.r_nil, Z.r_cons, Z.cn_o, Z.cn_p, Z.a1_s, Z.a2_s, Z.pu_nil, Z.pu_cons, Z.puK_s, Z.r_tup, Z.r_lst, Z.tp_s, Z.lt_s, Z.okLen_if, Z.r_fz, Z.fz_d, Z.fz_f, Z.fz_s, Z.fz_r, Z.fzR_l, Z.fzR_f, Z.r_T, Z.t_o, Z.tL_b, Z.r_not, Z.nt_o, Z.r_and, Z.r_or, Z.an_t, Z.an_f, Z.or_t, Z.or_f, Z.r_seq, Z.sq_n, Z.sq_r, Z.sq_b, Z.sq_c, Z.r_drop, Z.dr_o, Z.r_ret, Z.rt_o, Z.r_retN, Z.r_if, Z.if_o, Z.if_t', Z.if_f', Z.r_skip, Z.r_bk, Z.r_ct, Z.r_set, Z.st_o, Z.r_asg, Z.as_o, Z.as_p, Z.g_nm, Z.g_tp, Z.g_nil, Z.g_cons, Z.gc_o, Z.r_par, Z.pr_o, Z.pr_p, Z.sA_nil, Z.sA_cons, Z.r_fnM, Z.fn_n, Z.fn_d, Z.fn_r, Z.fr_l, Z.fr_f, Z.fr_i, Z.r_call, Z.cl_o, Z.r_callV, Z.cv_s, Z.in_r, Z.in_s, Z.r_fld, Z.fd_o, Z.fd_p, Z.fd_q, Z.r_setF, Z.sf_o, Z.sf_p, Z.sf_q, Z.r_meth, Z.mt_o, Z.mt_p, Z.mt_q, Z.r_make, Z.mk_o, Z.mk_p, Z.r_mt, Z.mm_o, Z.mm_p, Z.mm_q, Z.mm_r, Z.mm_s, Z.f_app, Z.f_ext, Z.ex_s, Z.f_popAt, Z.r_setIx, Z.si_o, Z.si_p, Z.si_q, Z.si_r, Z.sl_s, Z.r_augIx, Z.ai_o, Z.ai_p, Z.ai_q, Z.ai_r, Z.ai_s, Z.r_getL, Z.gl_s, Z.ip_add, Z.ip_sub, Z.r_aug, Z.ag_o, Z.ag_p, Z.ag_q, Z.r_ifE, Z.i_t, Z.i_f, Z.i_o, Z.r_andV, Z.av_o, Z.av_t, Z.av_f, Z.onB_K, Z.oBK_s, Z.r_chain, Z.ch_a, Z.ch_b, Z.ch_t, Z.ch_f, Z.ch_d, Z.ch_e, Z.r_chain3, Z.c3_a, Z.c3_b, Z.c3_t, Z.c3_f, Z.c3_d, Z.r_sl, Z.sl_a, Z.sl_b, Z.sl_c, Z.pt_n, Z.pt_s, Z.pt_o, Z.pt_i, Z.gs_d, Z.gs_r, Z.gs_s, Z.gSl_l, Z.gSl_t, Z.r_it, Z.it_l, Z.it_t, Z.r_enum, Z.en_l, Z.en_t, Z.r_rng1, Z.r_rng2, Z.r1_o, Z.r2_o, Z.r_for, Z.fo_o, Z.bd_o, Z.for_nil, Z.fl_n, Z.fl_c, Z.fl_b, Z.fl_r, Z.wc_t, Z.wc_f, Z.wb_n, Z.wb_r, Z.lc_nil, Z.lc_z, Z.lc_t, Z.lc_f, Z.lc_b, Z.lc_c, Z.r_lc, Z.lm_o, Z.lm_p, Z.gAdd_ii, Z.gAdd_ll, Z.gAdd_tt, Z.gSub_ii, Z.gMul_ii, Z.gDiv_ii, Z.gMod_ii, Z.gPow_ii, Z.gNeg_i, Z.bV_s, Z.gIx_l, Z.gIx_t, Z.gLen_l, Z.gLen_t, Z.gTup_l, Z.gTup_t, Z.gLst_l, Z.gLst_t, Z.gInt_i, Z.gInt_b, Z.gAbs_i, Z.gNot_b, Z.gZip_tt, Z.gZip_ll, Z.gAll_l, Z.gAny_l, Z.gSum_l, Z.gLRg1, Z.atI_0, Z.atI_1, Z.atI_2, Z.atI_3, Z.gS0, Z.gSj, Z.tS0, Z.tSj, Z.sS0, Z.sSj, Z.tSe, Z.r_lc2, Z.l2_o, Z.tL_l, Z.tL_t, Z.tL_i, Z.blsOf_true, Z.all_true, gEq_ii, gNe_ii, gEq_bb, gNe_bb, gLt_ii, gLe_ii, gGt_ii, gGe_ii, sub_sub_drop, HT.sIx_none, take_self, take_set, len_set, set_set, r_setL, putD, ixN, h, get_set h, get_app h, cpow18, c1, c2, c3, c4, c5, c6, cdiv7, q, big, h0, BagL, bagV]
      · simp [m__law_take, Z.r_var, Z.r_varK, Z.r_C, Z.r_fn, Z.r_yes, Z.rd_d, Z.rd_r, Z.rdK_l, Z.rdK_f, Z.r_on1, Z.r_on2, Z.o1_s, Z.o2_s, Z.r_outN, Z.oK_v, Z.oK_l, Z.r_m1, Z.m1_o, Z.r_m2, Z.m2_o, Z.m2_p, Z.r_mB, Z.mB_o, Z.r_nil, Z.r_cons, Z.cn_o, Z.cn_p, Z.a1_s, Z.a2_s, Z.pu_nil, Z.pu_cons, Z.puK_s, Z.r_tup, Z.r_lst, Z.tp_s, Z.lt_s, Z.okLen_if, Z.r_fz, Z.fz_d, Z.fz_f, Z.fz_s, Z.fz_r, Z.fzR_l, Z.fzR_f, Z.r_T, Z.t_o, Z.tL_b, Z.r_not, Z.nt_o, Z.r_and, Z.r_or, Z.an_t, Z.an_f, Z.or_t, Z.or_f, Z.r_seq, Z.sq_n, Z.sq_r, Z.sq_b, Z.sq_c, Z.r_drop, Z.dr_o, Z.r_ret, Z.rt_o, Z.r_retN, Z.r_if, Z.if_o, Z.if_t', Z.if_f', Z.r_skip, Z.r_bk, Z.r_ct, Z.r_set, Z.st_o, Z.r_asg, Z.as_o, Z.as_p, Z.g_nm, Z.g_tp, Z.g_nil, Z.g_cons, Z.gc_o, Z.r_par, Z.pr_o, Z.pr_p, Z.sA_nil, Z.sA_cons, Z.r_fnM, Z.fn_n, Z.fn_d, Z.fn_r, Z.fr_l, Z.fr_f, Z.fr_i, Z.r_call, Z.cl_o, Z.r_callV, Z.cv_s, Z.in_r, Z.in_s, Z.r_fld, Z.fd_o, Z.fd_p, Z.fd_q, Z.r_setF, Z.sf_o, Z.sf_p, Z.sf_q, Z.r_meth, Z.mt_o, Z.mt_p, Z.mt_q, Z.r_make, Z.mk_o, Z.mk_p, Z.r_mt, Z.mm_o, Z.mm_p, Z.mm_q, Z.mm_r, Z.mm_s, Z.f_app, Z.f_ext, Z.ex_s, Z.f_popAt, Z.r_setIx, Z.si_o, Z.si_p, Z.si_q, Z.si_r, Z.sl_s, Z.r_augIx, Z.ai_o, Z.ai_p, Z.ai_q, Z.ai_r, Z.ai_s, Z.r_getL, Z.gl_s, Z.ip_add, Z.ip_sub, Z.r_aug, Z.ag_o, Z.ag_p, Z.ag_q, Z.r_ifE, Z.i_t, Z.i_f, Z.i_o, Z.r_andV, Z.av_o, Z.av_t, Z.av_f, Z.onB_K, Z.oBK_s, Z.r_chain, Z.ch_a, Z.ch_b, Z.ch_t, Z.ch_f, Z.ch_d, Z.ch_e, Z.r_chain3, Z.c3_a, Z.c3_b, Z.c3_t, Z.c3_f, Z.c3_d, Z.r_sl, Z.sl_a, Z.sl_b, Z.sl_c, Z.pt_n, Z.pt_s, Z.pt_o, Z.pt_i, Z.gs_d, Z.gs_r, Z.gs_s, Z.gSl_l, Z.gSl_t, Z.r_it, Z.it_l, Z.it_t, Z.r_enum, Z.en_l, Z.en_t, Z.r_rng1, Z.r_rng2, Z.r1_o, Z.r2_o, Z.r_for, Z.fo_o, Z.bd_o, Z.for_nil, Z.fl_n, Z.fl_c, Z.fl_b, Z.fl_r, Z.wc_t, Z.wc_f, Z.wb_n, Z.wb_r, Z.lc_nil, Z.lc_z, Z.lc_t, Z.lc_f, Z.lc_b, Z.lc_c, Z.r_lc, Z.lm_o, Z.lm_p, Z.gAdd_ii, Z.gAdd_ll, Z.gAdd_tt, Z.gSub_ii, Z.gMul_ii, Z.gDiv_ii, Z.gMod_ii, Z.gPow_ii, Z.gNeg_i, Z.bV_s, Z.gIx_l, Z.gIx_t, Z.gLen_l, Z.gLen_t, Z.gTup_l, Z.gTup_t, Z.gLst_l, Z.gLst_t, Z.gInt_i, Z.gInt_b, Z.gAbs_i, Z.gNot_b, Z.gZip_tt, Z.gZip_ll, Z.gAll_l, Z.gAny_l, Z.gSum_l, Z.gLRg1, Z.atI_0, Z.atI_1, Z.atI_2, Z.atI_3, Z.gS0, Z.gSj, Z.tS0, Z.tSj, Z.sS0, Z.sSj, Z.tSe, Z.r_lc2, Z.l2_o, Z.tL_l, Z.tL_t, Z.tL_i, Z.blsOf_true, Z.all_true, gEq_ii, gNe_ii, gEq_bb, gNe_bb, gLt_ii, gLe_ii, gGt_ii, gGe_ii, sub_sub_drop, HT.sIx_none, take_self, take_set, len_set, set_set, r_setL, putD, ixN, h, get_set h, get_app h, cpow18, c1, c2, c3, c4, c5, c6, cdiv7, q, q2, big, h0, BagL, bagV]
  · have apos : 0 < a := by omega
    refine ⟨a % m, BagL (a / m) b i cs, ?_, bag_mk (Int.ediv_nonneg ha (by omega)) hb0 hb1 hcs hl, (emod_rng _ h0).1, (emod_rng _ h0).2⟩
    intro S k h
    unfold BagL at h
    unfold p__law_take
    simp [m__law_take, Z.r_var, Z.r_varK, Z.r_C, Z.r_fn, Z.r_yes, Z.rd_d, Z.rd_r, Z.rdK_l, Z.rdK_f, Z.r_on1, Z.r_on2, Z.o1_s, Z.o2_s, Z.r_outN, Z.oK_v, Z.oK_l, Z.r_m1, Z.m1_o, Z.r_m2, Z.m2_o, Z.m2_p, Z.r_mB, Z.mB_o, Z.r_nil, Z.r_cons, Z.cn_o, Z.cn_p, Z.a1_s, Z.a2_s, Z.pu_nil, Z.pu_cons, Z.puK_s, Z.r_tup, Z.r_lst, Z.tp_s, Z.lt_s, Z.okLen_if, Z.r_fz, Z.fz_d, Z.fz_f, Z.fz_s, Z.fz_r, Z.fzR_l, Z.fzR_f, Z.r_T, Z.t_o, Z.tL_b, Z.r_not, Z.nt_o, Z.r_and, Z.r_or, Z.an_t, Z.an_f, Z.or_t, Z.or_f, Z.r_seq, Z.sq_n, Z.sq_r, Z.sq_b, Z.sq_c, Z.r_drop, Z.dr_o, Z.r_ret, Z.rt_o, Z.r_retN, Z.r_if, Z.if_o, Z.if_t', Z.if_f', Z.r_skip, Z.r_bk, Z.r_ct, Z.r_set, Z.st_o, Z.r_asg, Z.as_o, Z.as_p, Z.g_nm, Z.g_tp, Z.g_nil, Z.g_cons, Z.gc_o, Z.r_par, Z.pr_o, Z.pr_p, Z.sA_nil, Z.sA_cons, Z.r_fnM, Z.fn_n, Z.fn_d, Z.fn_r, Z.fr_l, Z.fr_f, Z.fr_i, Z.r_call, Z.cl_o, Z.r_callV, Z.cv_s, Z.in_r, Z.in_s, Z.r_fld, Z.fd_o, Z.fd_p, Z.fd_q, Z.r_setF, Z.sf_o, Z.sf_p, Z.sf_q, Z.r_meth, Z.mt_o, Z.mt_p, Z.mt_q, Z.r_make, Z.mk_o, Z.mk_p, Z.r_mt, Z.mm_o, Z.mm_p, Z.mm_q, Z.mm_r, Z.mm_s, Z.f_app, Z.f_ext, Z.ex_s, Z.f_popAt, Z.r_setIx, Z.si_o, Z.si_p, Z.si_q, Z.si_r, Z.sl_s, Z.r_augIx, Z.ai_o, Z.ai_p, Z.ai_q, Z.ai_r, Z.ai_s, Z.r_getL, Z.gl_s, Z.ip_add, Z.ip_sub, Z.r_aug, Z.ag_o, Z.ag_p, Z.ag_q, Z.r_ifE, Z.i_t, Z.i_f, Z.i_o, Z.r_andV, Z.av_o, Z.av_t, Z.av_f, Z.onB_K, Z.oBK_s, Z.r_chain, Z.ch_a, Z.ch_b, Z.ch_t, Z.ch_f, Z.ch_d, Z.ch_e, Z.r_chain3, Z.c3_a, Z.c3_b, Z.c3_t, Z.c3_f, Z.c3_d, Z.r_sl, Z.sl_a, Z.sl_b, Z.sl_c, Z.pt_n, Z.pt_s, Z.pt_o, Z.pt_i, Z.gs_d, Z.gs_r, Z.gs_s, Z.gSl_l, Z.gSl_t, Z.r_it, Z.it_l, Z.it_t, Z.r_enum, Z.en_l, Z.en_t, Z.r_rng1, Z.r_rng2, Z.r1_o, Z.r2_o, Z.r_for, Z.fo_o, Z.bd_o, Z.for_nil, Z.fl_n, Z.fl_c, Z.fl_b, Z.fl_r, Z.wc_t, Z.wc_f, Z.wb_n, Z.wb_r, Z.lc_nil, Z.lc_z, Z.lc_t, Z.lc_f, Z.lc_b, Z.lc_c, Z.r_lc, Z.lm_o, Z.lm_p, Z.gAdd_ii, Z.gAdd_ll, Z.gAdd_tt, Z.gSub_ii, Z.gMul_ii, Z.gDiv_ii, Z.gMod_ii, Z.gPow_ii, Z.gNeg_i, Z.bV_s, Z.gIx_l, Z.gIx_t, Z.gLen_l, Z.gLen_t, Z.gTup_l, Z.gTup_t, Z.gLst_l, Z.gLst_t, Z.gInt_i, Z.gInt_b, Z.gAbs_i, Z.gNot_b, Z.gZip_tt, Z.gZip_ll, Z.gAll_l, Z.gAny_l, Z.gSum_l, Z.gLRg1, Z.atI_0, Z.atI_1, Z.atI_2, Z.atI_3, Z.gS0, Z.gSj, Z.tS0, Z.tSj, Z.sS0, Z.sSj, Z.tSe, Z.r_lc2, Z.l2_o, Z.tL_l, Z.tL_t, Z.tL_i, Z.blsOf_true, Z.all_true, gEq_ii, gNe_ii, gEq_bb, gNe_bb, gLt_ii, gLe_ii, gGt_ii, gGe_ii, sub_sub_drop, HT.sIx_none, take_self, take_set, len_set, set_set, r_setL, putD, ixN, h, get_set h, get_app h, cpow18, c3, ha0, apos, h0, BagL]
theorem take_ok {S : Sto} {k : Nat} {o : Ob} {m : Int} (h : S[k]? = some o) (hb : BagOK o) (h0 : 0 < m) (h1 : m < 1073741824) :
    ∃ v o', p__law_take [.r k, .d (.int m)] S = .ok (.d (.int v)) (S.set k o') ∧ BagOK o' ∧ 0 ≤ v ∧ v < m := by
  obtain ⟨v, o', f, g⟩ := takeO hb h0 h1
  exact ⟨v, o', f S k h, g⟩

/-! ### two that are the same are alike -/
mutual
def wt : D → Nat
  | .list xs => 1 + wts xs
  | .tuple xs => 1 + wts xs
  | _ => 1
def wts : List D → Nat
  | [] => 0
  | x :: xs => wt x + wts xs
end
def chd : D → List D
  | .list xs => xs
  | .tuple xs => xs
  | _ => []
theorem wt_pos (d : D) : 1 ≤ wt d := by cases d <;> simp [wt]
theorem wts_app (xs ys : List D) : wts (xs ++ ys) = wts xs + wts ys := by
  induction xs with
  | nil => simp [wts]
  | cons x xs ih => simp [wts, ih]; omega
theorem wts_len (xs : List D) : xs.length ≤ wts xs := by
  induction xs with
  | nil => simp [wts]
  | cons x xs ih => have := wt_pos x; simp [wts]; omega
theorem wt_chd (d : D) : wts (chd d) + 1 ≤ wt d := by cases d <;> simp [wt, chd, wts] <;> omega
def dbl (d : D) : D := .tuple [d, d]
theorem zip_dbl (xs : List D) : zipD xs xs = xs.map dbl := by
  unfold zipD
  induction xs with
  | nil => rfl
  | cons x xs ih => simp [List.zip_cons_cons, dbl, ih]
theorem clay_chd : ∀ (d : D), d.canLay0 = true → ∀ y ∈ chd d, y.canLay0 = true := by
  have h : ∀ (xs : List D), PyData.canLayAll0 xs = true → ∀ y ∈ xs, y.canLay0 = true := fun xs => by
    induction xs with
    | nil => intro _ y hy; cases hy
    | cons x xs ih =>
      intro h y hy
      rw [PyData.canLayAll0, Bool.and_eq_true] at h
      rcases List.mem_cons.mp hy with e | e
      · rw [e]; exact h.1
      · exact ih h.2 y e
  intro d hd
  cases d with
  | list xs => exact h xs (by rw [PyData.canLay0] at hd; exact hd)
  | tuple xs => exact h xs (by rw [PyData.canLay0] at hd; exact hd)
  | _ => intro y hy; cases hy
theorem atI_app {A B : List D} {d : D} : atI (A ++ d :: B) (A.length : Int) = some d := by
  rw [atI_n (by omega) (by rw [List.length_append, List.length_cons]; omega), Int.toNat_natCast, List.getElem?_append_right (Nat.le_refl _), Nat.sub_self]
  rfl
theorem gNe_self {s : Str} (h : (PyData.str s).canLay0 = true) : gNe (.str s) (.str s) = some false := by
  unfold gNe okEq SeqAt.shaped
  rw [h]
  have : PyData.eqv (.str s) (.str s) = true := by rw [PyData.eqv]; simp
  rw [this]
  rfl
theorem gNe_nn : gNe .none .none = some false := rfl
theorem isi_b {s : String} {d : D} : gIsi s d = some (.val (.bool (isTy s d))) := rfl
theorem isi2_b {s t : String} {d : D} : gIsi2 s t d = some (.val (.bool (isTy s d || isTy t d))) := rfl
def alI (S : Sto) (x : D) (s : List D × List D) (E : Vn) (S' : Sto) : Prop := ∃ a b, E = [some (.d x), some (.d x), some (.r S.length), some (.d (.int s.1.length)), a, b] ∧ S' = S ++ [.lst (s.1 ++ s.2.map dbl)] ∧ (∀ y ∈ s.2, y.canLay0 = true) ∧ s.1.length + wts s.2 ≤ 999990
def alS (s : List D × List D) : List D × List D := match s.2 with
  | [] => s
  | y :: r => (s.1 ++ [dbl y], r ++ chd y)
theorem alike_ok {S : Sto} {x : D} (hc : x.canLay0 = true) (hw : wt x ≤ 999990) : p__law_alike [.d x, .d x] S = .ok (.d (.bool true)) S := by
  unfold p__law_alike m__law_alike
  simp [Z.r_var, Z.r_varK, Z.r_C, Z.r_fn, Z.r_yes, Z.rd_d, Z.rd_r, Z.rdK_l, Z.rdK_f, Z.r_on1, Z.r_on2, Z.o1_s, Z.o2_s, Z.r_outN, Z.oK_v, Z.oK_l, Z.r_m1, Z.m1_o, Z.r_m2, Z.m2_o, Z.m2_p, Z.r_mB, Z.mB_o, Z.r_nil, Z.r_cons, Z.cn_o, Z.cn_p, Z.a1_s, Z.a2_s, Z.pu_nil, Z.pu_cons, Z.puK_s, Z.r_tup, Z.r_lst, Z.tp_s, Z.lt_s, Z.okLen_if, Z.r_fz, Z.fz_d, Z.fz_f, Z.fz_s, Z.fz_r, Z.fzR_l, Z.fzR_f, Z.r_T, Z.t_o, Z.tL_b, Z.r_not, Z.nt_o, Z.r_and, Z.r_or, Z.an_t, Z.an_f, Z.or_t, Z.or_f, Z.r_seq, Z.sq_n, Z.sq_r, Z.sq_b, Z.sq_c, Z.r_drop, Z.dr_o, Z.r_ret, Z.rt_o, Z.r_retN, Z.r_if, Z.if_o, Z.if_t', Z.if_f', Z.r_skip, Z.r_bk, Z.r_ct, Z.r_set, Z.st_o, Z.r_asg, Z.as_o, Z.as_p, Z.g_nm, Z.g_tp, Z.g_nil, Z.g_cons, Z.gc_o, Z.r_par, Z.pr_o, Z.pr_p, Z.sA_nil, Z.sA_cons, Z.r_fnM, Z.fn_n, Z.fn_d, Z.fn_r, Z.fr_l, Z.fr_f, Z.fr_i, Z.r_call, Z.cl_o, Z.r_callV, Z.cv_s, Z.in_r, Z.in_s, Z.r_fld, Z.fd_o, Z.fd_p, Z.fd_q, Z.r_setF, Z.sf_o, Z.sf_p, Z.sf_q, Z.r_meth, Z.mt_o, Z.mt_p, Z.mt_q, Z.r_make, Z.mk_o, Z.mk_p, Z.r_mt, Z.mm_o, Z.mm_p, Z.mm_q, Z.mm_r, Z.mm_s, Z.f_app, Z.f_ext, Z.ex_s, Z.f_popAt, Z.r_setIx, Z.si_o, Z.si_p, Z.si_q, Z.si_r, Z.sl_s, Z.r_augIx, Z.ai_o, Z.ai_p, Z.ai_q, Z.ai_r, Z.ai_s, Z.r_getL, Z.gl_s, Z.ip_add, Z.ip_sub, Z.r_aug, Z.ag_o, Z.ag_p, Z.ag_q, Z.r_ifE, Z.i_t, Z.i_f, Z.i_o, Z.r_andV, Z.av_o, Z.av_t, Z.av_f, Z.onB_K, Z.oBK_s, Z.r_chain, Z.ch_a, Z.ch_b, Z.ch_t, Z.ch_f, Z.ch_d, Z.ch_e, Z.r_chain3, Z.c3_a, Z.c3_b, Z.c3_t, Z.c3_f, Z.c3_d, Z.r_sl, Z.sl_a, Z.sl_b, Z.sl_c, Z.pt_n, Z.pt_s, Z.pt_o, Z.pt_i, Z.gs_d, Z.gs_r, Z.gs_s, Z.gSl_l, Z.gSl_t, Z.r_it, Z.it_l, Z.it_t, Z.r_enum, Z.en_l, Z.en_t, Z.r_rng1, Z.r_rng2, Z.r1_o, Z.r2_o, Z.r_for, Z.fo_o, Z.bd_o, Z.for_nil, Z.fl_n, Z.fl_c, Z.fl_b, Z.fl_r, Z.wc_t, Z.wc_f, Z.wb_n, Z.wb_r, Z.lc_nil, Z.lc_z, Z.lc_t, Z.lc_f, Z.lc_b, Z.lc_c, Z.r_lc, Z.lm_o, Z.lm_p, Z.gAdd_ii, Z.gAdd_ll, Z.gAdd_tt, Z.gSub_ii, Z.gMul_ii, Z.gDiv_ii, Z.gMod_ii, Z.gPow_ii, Z.gNeg_i, Z.bV_s, Z.gIx_l, Z.gIx_t, Z.gLen_l, Z.gLen_t, Z.gTup_l, Z.gTup_t, Z.gLst_l, Z.gLst_t, Z.gInt_i, Z.gInt_b, Z.gAbs_i, Z.gNot_b, Z.gZip_tt, Z.gZip_ll, Z.gAll_l, Z.gAny_l, Z.gSum_l, Z.gLRg1, Z.atI_0, Z.atI_1, Z.atI_2, Z.atI_3, Z.gS0, Z.gSj, Z.tS0, Z.tSj, Z.sS0, Z.sSj, Z.tSe, Z.r_lc2, Z.l2_o, Z.tL_l, Z.tL_t, Z.tL_i, Z.blsOf_true, Z.all_true, gEq_ii, gNe_ii, gEq_bb, gNe_bb, gLt_ii, gLe_ii, gGt_ii, gGe_ii, sub_sub_drop, HT.sIx_none, take_self, take_set, len_set, set_set, r_setL, putD, ixN]
  refine wh_then (fun o => fnK S.length (sqK _ o)) (alI S x) (fun s => wts s.2) alS (fun s => s.2.isEmpty) ([], [x]) ?_ ?_ ?_ ?_
  · simp [wts]; omega
  · exact ⟨none, none, rfl, rfl, by simpa using hc, by simp [wts]; omega⟩
  · rintro ⟨A, R⟩ E S' ⟨a, b, rfl, rfl, h1, h2⟩
    dsimp only at h1 h2
    cases R with
    | nil =>
      refine ⟨S ++ [.lst A], ?_, ?_⟩
      · simp [Z.r_var, Z.r_varK, Z.r_C, Z.r_fn, Z.r_yes, Z.rd_d, Z.rd_r, Z.rdK_l, Z.rdK_f, Z.r_on1, Z.r_on2, Z.o1_s, Z.o2_s, Z.r_outN, Z.oK_v, Z.oK_l, Z.r_m1, Z.m1_o, Z.r_m2, Z.m2_o, Z.m2_p, Z.r_mB, Z.mB_o, Z.r_nil, Z.r_cons, Z.cn_o, Z.cn_p, Z.a1_s, Z.a2_s, Z.pu_nil, Z.pu_cons, Z.puK_s, Z.r_tup, Z.r_lst, Z.tp_s, Z.lt_s, Z.okLen_if, Z.r_fz, Z.fz_d, Z.fz_f, Z.fz_s, Z.fz_r, Z.fzR_l, Z.fzR_f, Z.r_T, Z.t_o, Z.tL_b, Z.r_not, Z.nt_o, Z.r_and, Z.r_or, Z.an_t, Z.an_f, Z.or_t, Z.or_f, Z.r_seq, Z.sq_n, Z.sq_r, Z.sq_b, Z.sq_c, Z.r_drop, Z.dr_o, Z.r_ret, Z.rt_o, Z.r_retN, Z.r_if, Z.if_o, Z.if_t', Z.if_f', Z.r_skip, Z.r_bk, Z.r_ct, Z.r_set, Z.st_o, Z.r_asg, Z.as_o, Z.as_p, Z.g_nm, Z.g_tp, Z.g_nil, Z.g_cons, Z.gc_o, Z.r_par, Z.pr_o, Z.pr_p, Z.sA_nil, Z.sA_cons, Z.r_fnM, Z.fn_n, Z.fn_d, Z.fn_r, Z.fr_l, Z.fr_f, Z.fr_i, Z.r_call, Z.cl_o, Z.r_callV, Z.cv_s, Z.in_r, Z.in_s, Z.r_fld, Z.fd_o, Z.fd_p, Z.fd_q, Z.r_setF, Z.sf_o, Z.sf_p, Z.sf_q, Z.r_meth, Z.mt_o, Z.mt_p, Z.mt_q, Z.r_make, Z.mk_o, Z.mk_p, Z.r_mt, Z.mm_o, Z.mm_p, Z.mm_q, Z.mm_r, Z.mm_s, Z.f_app, Z.f_ext, Z.ex_s, Z.f_popAt, Z.r_setIx, Z.si_o, Z.si_p, Z.si_q, Z.si_r, Z.sl_s, Z.r_augIx, Z.ai_o, Z.ai_p, Z.ai_q, Z.ai_r, Z.ai_s, Z.r_getL, Z.gl_s, Z.ip_add, Z.ip_sub, Z.r_aug, Z.ag_o, Z.ag_p, Z.ag_q, Z.r_ifE, Z.i_t, Z.i_f, Z.i_o, Z.r_andV, Z.av_o, Z.av_t, Z.av_f, Z.onB_K, Z.oBK_s, Z.r_chain, Z.ch_a, Z.ch_b, Z.ch_t, Z.ch_f, Z.ch_d, Z.ch_e, Z.r_chain3, Z.c3_a, Z.c3_b, Z.c3_t, Z.c3_f, Z.c3_d, Z.r_sl, Z.sl_a, Z.sl_b, Z.sl_c, Z.pt_n, Z.pt_s, Z.pt_o, Z.pt_i, Z.gs_d, Z.gs_r, Z.gs_s, Z.gSl_l, Z.gSl_t, Z.r_it, Z.it_l, Z.it_t, Z.r_enum, Z.en_l, Z.en_t, Z.r_rng1, Z.r_rng2, Z.r1_o, Z.r2_o, Z.r_for, Z.fo_o, Z.bd_o, Z.for_nil, Z.fl_n, Z.fl_c, Z.fl_b, Z.fl_r, Z.wc_t, Z.wc_f, Z.wb_n, Z.wb_r, Z.lc_nil, Z.lc_z, Z.lc_t, Z.lc_f, Z.lc_b, Z.lc_c, Z.r_lc, Z.lm_o, Z.lm_p, Z.gAdd_ii, Z.gAdd_ll, Z.gAdd_tt, Z.gSub_ii, Z.gMul_ii, Z.gDiv_ii, Z.gMod_ii, Z.gPow_ii, Z.gNeg_i, Z.bV_s, Z.gIx_l, Z.gIx_t, Z.gLen_l, Z.gLen_t, Z.gTup_l, Z.gTup_t, Z.gLst_l, Z.gLst_t, Z.gInt_i, Z.gInt_b, Z.gAbs_i, Z.gNot_b, Z.gZip_tt, Z.gZip_ll, Z.gAll_l, Z.gAny_l, Z.gSum_l, Z.gLRg1, Z.atI_0, Z.atI_1, Z.atI_2, Z.atI_3, Z.gS0, Z.gSj, Z.tS0, Z.tSj, Z.sS0, Z.sSj, Z.tSe, Z.r_lc2, Z.l2_o, Z.tL_l, Z.tL_t, Z.tL_i, Z.blsOf_true, Z.all_true, gEq_ii, gNe_ii, gEq_bb, gNe_bb, gLt_ii, gLe_ii, gGt_ii, gGe_ii, sub_sub_drop, HT.sIx_none, take_self, take_set, len_set, set_set, r_setL, putD, ixN]
      · rw [if_pos (show ((A, []) : List D × List D).2.isEmpty = true from rfl)]
        exact ⟨a, b, rfl, by simp, by simp, by simp [wts] at *; omega⟩
    | cons y R =>
      have hl : A.length + (R.map dbl).length + 1 ≤ 999990 := by
        have h3 := wts_len R
        have h4 := wt_pos y
        simp [wts] at h2
        simp
        omega
      have hy := h1 y (by simp)
      have hch := wt_chd y
      refine ⟨S ++ [.lst (A ++ (y :: R).map dbl)], ?_, ?_⟩
      · simp [Z.r_var, Z.r_varK, Z.r_C, Z.r_fn, Z.r_yes, Z.rd_d, Z.rd_r, Z.rdK_l, Z.rdK_f, Z.r_on1, Z.r_on2, Z.o1_s, Z.o2_s, Z.r_outN, Z.oK_v, Z.oK_l, Z.r_m1, Z.m1_o, Z.r_m2, Z.m2_o, Z.m2_p, Z.r_mB, Z.mB_o, Z.r_nil, Z.r_cons, Z.cn_o, Z.cn_p, Z.a1_s, Z.a2_s, Z.pu_nil, Z.pu_cons, Z.puK_s, Z.r_tup, Z.r_lst, Z.tp_s, Z.lt_s, Z.okLen_if, Z.r_fz, Z.fz_d, Z.fz_f, Z.fz_s, Z.fz_r, Z.fzR_l, Z.fzR_f, Z.r_T, Z.t_o, Z.tL_b, Z.r_not, Z.nt_o, Z.r_and, Z.r_or, Z.an_t, Z.an_f, Z.or_t, Z.or_f, Z.r_seq, Z.sq_n, Z.sq_r, Z.sq_b, Z.sq_c, Z.r_drop, Z.dr_o, Z.r_ret, Z.rt_o, Z.r_retN, Z.r_if, Z.if_o, Z.if_t', Z.if_f', Z.r_skip, Z.r_bk, Z.r_ct, Z.r_set, Z.st_o, Z.r_asg, Z.as_o, Z.as_p, Z.g_nm, Z.g_tp, Z.g_nil, Z.g_cons, Z.gc_o, Z.r_par, Z.pr_o, Z.pr_p, Z.sA_nil, Z.sA_cons, Z.r_fnM, Z.fn_n, Z.fn_d, Z.fn_r, Z.fr_l, Z.fr_f, Z.fr_i, Z.r_call, Z.cl_o, Z.r_callV, Z.cv_s, Z.in_r, Z.in_s, Z.r_fld, Z.fd_o, Z.fd_p, Z.fd_q, Z.r_setF, Z.sf_o, Z.sf_p, Z.sf_q, Z.r_meth, Z.mt_o, Z.mt_p, Z.mt_q, Z.r_make, Z.mk_o, Z.mk_p, Z.r_mt, Z.mm_o, Z.mm_p, Z.mm_q, Z.mm_r, Z.mm_s, Z.f_app, Z.f_ext, Z.ex_s, Z.f_popAt, Z.r_setIx, Z.si_o, Z.si_p, Z.si_q, Z.si_r, Z.sl_s, Z.r_augIx, Z.ai_o, Z.ai_p, Z.ai_q, Z.ai_r, Z.ai_s, Z.r_getL, Z.gl_s, Z.ip_add, Z.ip_sub, Z.r_aug, Z.ag_o, Z.ag_p, Z.ag_q, Z.r_ifE, Z.i_t, Z.i_f, Z.i_o, Z.r_andV, Z.av_o, Z.av_t, Z.av_f, Z.onB_K, Z.oBK_s, Z.r_chain, Z.ch_a, Z.ch_b, Z.ch_t, Z.ch_f, Z.ch_d, Z.ch_e, Z.r_chain3, Z.c3_a, Z.c3_b, Z.c3_t, Z.c3_f, Z.c3_d, Z.r_sl, Z.sl_a, Z.sl_b, Z.sl_c, Z.pt_n, Z.pt_s, Z.pt_o, Z.pt_i, Z.gs_d, Z.gs_r, Z.gs_s, Z.gSl_l, Z.gSl_t, Z.r_it, Z.it_l, Z.it_t, Z.r_enum, Z.en_l, Z.en_t, Z.r_rng1, Z.r_rng2, Z.r1_o, Z.r2_o, Z.r_for, Z.fo_o, Z.bd_o, Z.for_nil, Z.fl_n, Z.fl_c, Z.fl_b, Z.fl_r, Z.wc_t, Z.wc_f, Z.wb_n, Z.wb_r, Z.lc_nil, Z.lc_z, Z.lc_t, Z.lc_f, Z.lc_b, Z.lc_c, Z.r_lc, Z.lm_o, Z.lm_p, Z.gAdd_ii, Z.gAdd_ll, Z.gAdd_tt, Z.gSub_ii, Z.gMul_ii, Z.gDiv_ii, Z.gMod_ii, Z.gPow_ii, Z.gNeg_i, Z.bV_s, Z.gIx_l, Z.gIx_t, Z.gLen_l, Z.gLen_t, Z.gTup_l, Z.gTup_t, Z.gLst_l, Z.gLst_t, Z.gInt_i, Z.gInt_b, Z.gAbs_i, Z.gNot_b, Z.gZip_tt, Z.gZip_ll, Z.gAll_l, Z.gAny_l, Z.gSum_l, Z.gLRg1, Z.atI_0, Z.atI_1, Z.atI_2, Z.atI_3, Z.gS0, Z.gSj, Z.tS0, Z.tSj, Z.sS0, Z.sSj, Z.tSe, Z.r_lc2, Z.l2_o, Z.tL_l, Z.tL_t, Z.tL_i, Z.blsOf_true, Z.all_true, gEq_ii, gNe_ii, gEq_bb, gNe_bb, gLt_ii, gLe_ii, gGt_ii, gGe_ii, sub_sub_drop, HT.sIx_none, take_self, take_set, len_set, set_set, r_setL, putD, ixN]
        omega
      · rw [if_neg (by simp)]
        refine ⟨by simp [alS, wts_app, wts]; omega, [some (.d x), some (.d x), some (.r S.length), some (.d (.int (A.length + 1 : Nat))), some (.d y), some (.d y)], S ++ [.lst (A ++ [dbl y] ++ (R ++ chd y).map dbl)], ?_, ?_⟩
        · have hat : atI (A ++ dbl y :: R.map dbl) (A.length : Int) = some (dbl y) := atI_app
          have hch2 := wts_len (chd y)
          cases y with
          | tuple ys =>
            have hx : A.length + (R.length + 1) + ys.length ≤ 16777216 := by
              have h3 := wts_len R
              simp [wts, chd] at h2 hch hch2
              omega
            simp [Z.r_var, Z.r_varK, Z.r_C, Z.r_fn, Z.r_yes, Z.rd_d, Z.rd_r, Z.rdK_l, Z.rdK_f, Z.r_on1, Z.r_on2, Z.o1_s, Z.o2_s, Z.r_outN, Z.oK_v, Z.oK_l, Z.r_m1, Z.m1_o, Z.r_m2, Z.m2_o, Z.m2_p, Z.r_mB, Z.mB_o, Z.r_nil, Z.r_cons, Z.cn_o, Z.cn_p, Z.a1_s, Z.a2_s, Z.pu_nil, Z.pu_cons, Z.puK_s, Z.r_tup, Z.r_lst, Z.tp_s, Z.lt_s, Z.okLen_if, Z.r_fz, Z.fz_d, Z.fz_f, Z.fz_s, Z.fz_r, Z.fzR_l, Z.fzR_f, Z.r_T, Z.t_o, Z.tL_b, Z.r_not, Z.nt_o, Z.r_and, Z.r_or, Z.an_t, Z.an_f, Z.or_t, Z.or_f, Z.r_seq, Z.sq_n, Z.sq_r, Z.sq_b, Z.sq_c, Z.r_drop, Z.dr_o, Z.r_ret, Z.rt_o, Z.r_retN, Z.r_if, Z.if_o, Z.if_t', Z.if_f', Z.r_skip, Z.r_bk, Z.r_ct, Z.r_set, Z.st_o, Z.r_asg, Z.as_o, Z.as_p, Z.g_nm, Z.g_tp, Z.g_nil, Z.g_cons, Z.gc_o, Z.r_par, Z.pr_o, Z.pr_p, Z.sA_nil, Z.sA_cons, Z.r_fnM, Z.fn_n, Z.fn_d, Z.fn_r, Z.fr_l, Z.fr_f, Z.fr_i, Z.r_call, Z.cl_o, Z.r_callV, Z.cv_s, Z.in_r, Z.in_s, Z.r_fld, Z.fd_o, Z.fd_p, Z.fd_q, Z.r_setF, Z.sf_o, Z.sf_p, Z.sf_q, Z.r_meth, Z.mt_o, Z.mt_p, Z.mt_q, Z.r_make, Z.mk_o, Z.mk_p, Z.r_mt, Z.mm_o, Z.mm_p, Z.mm_q, Z.mm_r, Z.mm_s, Z.f_app, Z.f_ext, Z.ex_s, Z.f_popAt, Z.r_setIx, Z.si_o, Z.si_p, Z.si_q, Z.si_r, Z.sl_s, Z.r_augIx, Z.ai_o, Z.ai_p, Z.ai_q, Z.ai_r, Z.ai_s, Z.r_getL, Z.gl_s, Z.ip_add, Z.ip_sub, Z.r_aug, Z.ag_o, Z.ag_p, Z.ag_q, Z.r_ifE, Z.i_t, Z.i_f, Z.i_o, Z.r_andV, Z.av_o, Z.av_t, Z.av_f, Z.onB_K, Z.oBK_s, Z.r_chain, Z.ch_a, Z.ch_b, Z.ch_t, Z.ch_f, Z.ch_d, Z.ch_e, Z.r_chain3, Z.c3_a, Z.c3_b, Z.c3_t, Z.c3_f, Z.c3_d, Z.r_sl, Z.sl_a, Z.sl_b, Z.sl_c, Z.pt_n, Z.pt_s, Z.pt_o, Z.pt_i, Z.gs_d, Z.gs_r, Z.gs_s, Z.gSl_l, Z.gSl_t, Z.r_it, Z.it_l, Z.it_t, Z.r_enum, Z.en_l, Z.en_t, Z.r_rng1, Z.r_rng2, Z.r1_o, Z.r2_o, Z.r_for, Z.fo_o, Z.bd_o, Z.for_nil, Z.fl_n, Z.fl_c, Z.fl_b, Z.fl_r, Z.wc_t, Z.wc_f, Z.wb_n, Z.wb_r, Z.lc_nil, Z.lc_z, Z.lc_t, Z.lc_f, Z.lc_b, Z.lc_c, Z.r_lc, Z.lm_o, Z.lm_p, Z.gAdd_ii, Z.gAdd_ll, Z.gAdd_tt, Z.gSub_ii, Z.gMul_ii, Z.gDiv_ii, Z.gMod_ii, Z.gPow_ii, Z.gNeg_i, Z.bV_s, Z.gIx_l, Z.gIx_t, Z.gLen_l, Z.gLen_t, Z.gTup_l, Z.gTup_t, Z.gLst_l, Z.gLst_t, Z.gInt_i, Z.gInt_b, Z.gAbs_i, Z.gNot_b, Z.gZip_tt, Z.gZip_ll, Z.gAll_l, Z.gAny_l, Z.gSum_l, Z.gLRg1, Z.atI_0, Z.atI_1, Z.atI_2, Z.atI_3, Z.gS0, Z.gSj, Z.tS0, Z.tSj, Z.sS0, Z.sSj, Z.tSe, Z.r_lc2, Z.l2_o, Z.tL_l, Z.tL_t, Z.tL_i, Z.blsOf_true, Z.all_true, gEq_ii, gNe_ii, gEq_bb, gNe_bb, gLt_ii, gLe_ii, gGt_ii, gGe_ii, sub_sub_drop, HT.sIx_none, take_self, take_set, len_set, set_set, r_setL, putD, ixN, isi_b, isi2_b, atI_app, dbl, isTy, chd, zip_dbl, hx]
            try simp [dbl]
          | list ys =>
            have hx : A.length + (R.length + 1) + ys.length ≤ 16777216 := by
              have h3 := wts_len R
              simp [wts, chd] at h2 hch hch2
              omega
            simp [Z.r_var, Z.r_varK, Z.r_C, Z.r_fn, Z.r_yes, Z.rd_d, Z.rd_r, Z.rdK_l, Z.rdK_f, Z.r_on1, Z.r_on2, Z.o1_s, Z.o2_s, Z.r_outN, Z.oK_v, Z.oK_l, Z.r_m1, Z.m1_o, Z.r_m2, Z.m2_o, Z.m2_p, Z.r_mB, Z.mB_o, Z.r_nil, Z.r_cons, Z.cn_o, Z.cn_p, Z.a1_s, Z.a2_s, Z.pu_nil, Z.pu_cons, Z.puK_s, Z.r_tup, Z.r_lst, Z.tp_s, Z.lt_s, Z.okLen_if, Z.r_fz, Z.fz_d, Z.fz_f, Z.fz_s, Z.fz_r, Z.fzR_l, Z.fzR_f, Z.r_T, Z.t_o, Z.tL_b, Z.r_not, Z.nt_o, Z.r_and, Z.r_or, Z.an_t, Z.an_f, Z.or_t, Z.or_f, Z.r_seq, Z.sq_n, Z.sq_r, Z.sq_b, Z.sq_c, Z.r_drop, Z.dr_o, Z.r_ret, Z.rt_o, Z.r_retN, Z.r_if, Z.if_o, Z.if_t', Z.if_f', Z.r_skip, Z.r_bk, Z.r_ct, Z.r_set, Z.st_o, Z.r_asg, Z.as_o, Z.as_p, Z.g_nm, Z.g_tp, Z.g_nil, Z.g_cons, Z.gc_o, Z.r_par, Z.pr_o, Z.pr_p, Z.sA_nil, Z.sA_cons, Z.r_fnM, Z.fn_n, Z.fn_d, Z.fn_r, Z.fr_l, Z.fr_f, Z.fr_i, Z.r_call, Z.cl_o, Z.r_callV, Z.cv_s, Z.in_r, Z.in_s, Z.r_fld, Z.fd_o, Z.fd_p, Z.fd_q, Z.r_setF, Z.sf_o, Z.sf_p, Z.sf_q, Z.r_meth, Z.mt_o, Z.mt_p, Z.mt_q, Z.r_make, Z.mk_o, Z.mk_p, Z.r_mt, Z.mm_o, Z.mm_p, Z.mm_q, Z.mm_r, Z.mm_s, Z.f_app, Z.f_ext, Z.ex_s, Z.f_popAt, Z.r_setIx, Z.si_o, Z.si_p, Z.si_q, Z.si_r, Z.sl_s, Z.r_augIx, Z.ai_o, Z.ai_p, Z.ai_q, Z.ai_r, Z.ai_s, Z.r_getL, Z.gl_s, Z.ip_add, Z.ip_sub, Z.r_aug, Z.ag_o, Z.ag_p, Z.ag_q, Z.r_ifE, Z.i_t, Z.i_f, Z.i_o, Z.r_andV, Z.av_o, Z.av_t, Z.av_f, Z.onB_K, Z.oBK_s, Z.r_chain, Z.ch_a, Z.ch_b, Z.ch_t, Z.ch_f, Z.ch_d, Z.ch_e, Z.r_chain3, Z.c3_a, Z.c3_b, Z.c3_t, Z.c3_f, Z.c3_d, Z.r_sl, Z.sl_a, Z.sl_b, Z.sl_c, Z.pt_n, Z.pt_s, Z.pt_o, Z.pt_i, Z.gs_d, Z.gs_r, Z.gs_s, Z.gSl_l, Z.gSl_t, Z.r_it, Z.it_l, Z.it_t, Z.r_enum, Z.en_l, Z.en_t, Z.r_rng1, Z.r_rng2, Z.r1_o, Z.r2_o, Z.r_for, Z.fo_o, Z.bd_o, Z.for_nil, Z.fl_n, Z.fl_c, Z.fl_b, Z.fl_r, Z.wc_t, Z.wc_f, Z.wb_n, Z.wb_r, Z.lc_nil, Z.lc_z, Z.lc_t, Z.lc_f, Z.lc_b, Z.lc_c, Z.r_lc, Z.lm_o, Z.lm_p, Z.gAdd_ii, Z.gAdd_ll, Z.gAdd_tt, Z.gSub_ii, Z.gMul_ii, Z.gDiv_ii, Z.gMod_ii, Z.gPow_ii, Z.gNeg_i, Z.bV_s, Z.gIx_l, Z.gIx_t, Z.gLen_l, Z.gLen_t, Z.gTup_l, Z.gTup_t, Z.gLst_l, Z.gLst_t, Z.gInt_i, Z.gInt_b, Z.gAbs_i, Z.gNot_b, Z.gZip_tt, Z.gZip_ll, Z.gAll_l, Z.gAny_l, Z.gSum_l, Z.gLRg1, Z.atI_0, Z.atI_1, Z.atI_2, Z.atI_3, Z.gS0, Z.gSj, Z.tS0, Z.tSj, Z.sS0, Z.sSj, Z.tSe, Z.r_lc2, Z.l2_o, Z.tL_l, Z.tL_t, Z.tL_i, Z.blsOf_true, Z.all_true, gEq_ii, gNe_ii, gEq_bb, gNe_bb, gLt_ii, gLe_ii, gGt_ii, gGe_ii, sub_sub_drop, HT.sIx_none, take_self, take_set, len_set, set_set, r_setL, putD, ixN, isi_b, isi2_b, atI_app, dbl, isTy, chd, zip_dbl, hx]
            try simp [dbl]
          | dict ys => rw [PyData.canLay0] at hy; cases hy
          | none => simp [Z.r_var, Z.r_varK, Z.r_C, Z.r_fn, Z.r_yes, Z.rd_d, Z.rd_r, Z.rdK_l, Z.rdK_f, Z.r_on1, Z.r_on2, Z.o1_s, Z.o2_s, Z.r_outN, Z.oK_v, Z.oK_l, Z.r_m1, Z.m1_o, Z.r_m2, Z.m2_o, Z.m2_p, Z.r_mB, Z.mB_o, Z.r_nil, Z.r_cons, Z.cn_o, Z.cn_p, Z.a1_s, Z.a2_s, Z.pu_nil, Z.pu_cons, Z.puK_s, Z.r_tup, Z.r_lst, Z.tp_s, Z.lt_s, Z.okLen_if, Z.r_fz, Z.fz_d, Z.fz_f, Z.fz_s, Z.fz_r, Z.fzR_l, Z.fzR_f, Z.r_T, Z.t_o, Z.tL_b, Z.r_not, Z.nt_o, Z.r_and, Z.r_or, Z.an_t, Z.an_f, Z.or_t, Z.or_f, Z.r_seq, Z.sq_n, Z.sq_r, Z.sq_b, Z.sq_c, Z.r_drop, Z.dr_o, Z.r_ret, Z.rt_o, Z.r_retN, Z.r_if, Z.if_o, Z.if_t', Z.if_f', Z.r_skip, Z.r_bk, Z.r_ct, Z.r_set, Z.st_o, Z.r_asg, Z.as_o, Z.as_p, Z.g_nm, Z.g_tp, Z.g_nil, Z.g_cons, Z.gc_o, Z.r_par, Z.pr_o, Z.pr_p, Z.sA_nil, Z.sA_cons, Z.r_fnM, Z.fn_n, Z.fn_d, Z.fn_r, Z.fr_l, Z.fr_f, Z.fr_i, Z.r_call, Z.cl_o, Z.r_callV, Z.cv_s, Z.in_r, Z.in_s, Z.r_fld, Z.fd_o, Z.fd_p, Z.fd_q, Z.r_setF, Z.sf_o, Z.sf_p, Z.sf_q, Z.r_meth, Z.mt_o, Z.mt_p, Z.mt_q, Z.r_make, Z.mk_o, Z.mk_p, Z.r_mt, Z.mm_o, Z.mm_p, Z.mm_q, Z.mm_r, Z.mm_s, Z.f_app, Z.f_ext, Z.ex_s, Z.f_popAt, Z.r_setIx, Z.si_o, Z.si_p, Z.si_q, Z.si_r, Z.sl_s, Z.r_augIx, Z.ai_o, Z.ai_p, Z.ai_q, Z.ai_r, Z.ai_s, Z.r_getL, Z.gl_s, Z.ip_add, Z.ip_sub, Z.r_aug, Z.ag_o, Z.ag_p, Z.ag_q, Z.r_ifE, Z.i_t, Z.i_f, Z.i_o, Z.r_andV, Z.av_o, Z.av_t, Z.av_f, Z.onB_K, Z.oBK_s, Z.r_chain, Z.ch_a, Z.ch_b, Z.ch_t, Z.ch_f, Z.ch_d, Z.ch_e, Z.r_chain3, Z.c3_a, Z.c3_b, Z.c3_t, Z.c3_f, Z.c3_d, Z.r_sl, Z.sl_a, Z.sl_b, Z.sl_c, Z.pt_n, Z.pt_s, Z.pt_o, Z.pt_i, Z.gs_d, Z.gs_r, Z.gs_s, Z.gSl_l, Z.gSl_t, Z.r_it, Z.it_l, Z.it_t, Z.r_enum, Z.en_l, Z.en_t, Z.r_rng1, Z.r_rng2, Z.r1_o, Z.r2_o, Z.r_for, Z.fo_o, Z.bd_o, Z.for_nil, Z.fl_n, Z.fl_c, Z.fl_b, Z.fl_r, Z.wc_t, Z.wc_f, Z.wb_n, Z.wb_r, Z.lc_nil, Z.lc_z, Z.lc_t, Z.lc_f, Z.lc_b, Z.lc_c, Z.r_lc, Z.lm_o, Z.lm_p, Z.gAdd_ii, Z.gAdd_ll, Z.gAdd_tt, Z.gSub_ii, Z.gMul_ii, Z.gDiv_ii, Z.gMod_ii, Z.gPow_ii, Z.gNeg_i, Z.bV_s, Z.gIx_l, Z.gIx_t, Z.gLen_l, Z.gLen_t, Z.gTup_l, Z.gTup_t, Z.gLst_l, Z.gLst_t, Z.gInt_i, Z.gInt_b, Z.gAbs_i, Z.gNot_b, Z.gZip_tt, Z.gZip_ll, Z.gAll_l, Z.gAny_l, Z.gSum_l, Z.gLRg1, Z.atI_0, Z.atI_1, Z.atI_2, Z.atI_3, Z.gS0, Z.gSj, Z.tS0, Z.tSj, Z.sS0, Z.sSj, Z.tSe, Z.r_lc2, Z.l2_o, Z.tL_l, Z.tL_t, Z.tL_i, Z.blsOf_true, Z.all_true, gEq_ii, gNe_ii, gEq_bb, gNe_bb, gLt_ii, gLe_ii, gGt_ii, gGe_ii, sub_sub_drop, HT.sIx_none, take_self, take_set, len_set, set_set, r_setL, putD, ixN, isi_b, isi2_b, atI_app, dbl, isTy, chd, gNe_nn]
          | bool v => simp [Z.r_var, Z.r_varK, Z.r_C, Z.r_fn, Z.r_yes, Z.rd_d, Z.rd_r, Z.rdK_l, Z.rdK_f, Z.r_on1, Z.r_on2, Z.o1_s, Z.o2_s, Z.r_outN, Z.oK_v, Z.oK_l, Z.r_m1, Z.m1_o, Z.r_m2, Z.m2_o, Z.m2_p, Z.r_mB, Z.mB_o, Z.r_nil, Z.r_cons, Z.cn_o, Z.cn_p, Z.a1_s, Z.a2_s, Z.pu_nil, Z.pu_cons, Z.puK_s, Z.r_tup, Z.r_lst, Z.tp_s, Z.lt_s, Z.okLen_if, Z.r_fz, Z.fz_d, Z.fz_f, Z.fz_s, Z.fz_r, Z.fzR_l, Z.fzR_f, Z.r_T, Z.t_o, Z.tL_b, Z.r_not, Z.nt_o, Z.r_and, Z.r_or, Z.an_t, Z.an_f, Z.or_t, Z.or_f, Z.r_seq, Z.sq_n, Z.sq_r, Z.sq_b, Z.sq_c, Z.r_drop, Z.dr_o, Z.r_ret, Z.rt_o, Z.r_retN, Z.r_if, Z.if_o, Z.if_t', Z.if_f', Z.r_skip, Z.r_bk, Z.r_ct, Z.r_set, Z.st_o, Z.r_asg, Z.as_o, Z.as_p, Z.g_nm, Z.g_tp, Z.g_nil, Z.g_cons, Z.gc_o, Z.r_par, Z.pr_o, Z.pr_p, Z.sA_nil, Z.sA_cons, Z.r_fnM, Z.fn_n, Z.fn_d, Z.fn_r, Z.fr_l, Z.fr_f, Z.fr_i, Z.r_call, Z.cl_o, Z.r_callV, Z.cv_s, Z.in_r, Z.in_s, Z.r_fld, Z.fd_o, Z.fd_p, Z.fd_q, Z.r_setF, Z.sf_o, Z.sf_p, Z.sf_q, Z.r_meth, Z.mt_o, Z.mt_p, Z.mt_q, Z.r_make, Z.mk_o, Z.mk_p, Z.r_mt, Z.mm_o, Z.mm_p, Z.mm_q, Z.mm_r, Z.mm_s, Z.f_app, Z.f_ext, Z.ex_s, Z.f_popAt, Z.r_setIx, Z.si_o, Z.si_p, Z.si_q, Z.si_r, Z.sl_s, Z.r_augIx, Z.ai_o, Z.ai_p, Z.ai_q, Z.ai_r, Z.ai_s, Z.r_getL, Z.gl_s, Z.ip_add, Z.ip_sub, Z.r_aug, Z.ag_o, Z.ag_p, Z.ag_q, Z.r_ifE, Z.i_t, Z.i_f, Z.i_o, Z.r_andV, Z.av_o, Z.av_t, Z.av_f, Z.onB_K, Z.oBK_s, Z.r_chain, Z.ch_a, Z.ch_b, Z.ch_t, Z.ch_f, Z.ch_d, Z.ch_e, Z.r_chain3, Z.c3_a, Z.c3_b, Z.c3_t, Z.c3_f, Z.c3_d, Z.r_sl, Z.sl_a, Z.sl_b, Z.sl_c, Z.pt_n, Z.pt_s, Z.pt_o, Z.pt_i, Z.gs_d, Z.gs_r, Z.gs_s, Z.gSl_l, Z.gSl_t, Z.r_it, Z.it_l, Z.it_t, Z.r_enum, Z.en_l, Z.en_t, Z.r_rng1, Z.r_rng2, Z.r1_o, Z.r2_o, Z.r_for, Z.fo_o, Z.bd_o, Z.for_nil, Z.fl_n, Z.fl_c, Z.fl_b, Z.fl_r, Z.wc_t, Z.wc_f, Z.wb_n, Z.wb_r, Z.lc_nil, Z.lc_z, Z.lc_t, Z.lc_f, Z.lc_b, Z.lc_c, Z.r_lc, Z.lm_o, Z.lm_p, Z.gAdd_ii, Z.gAdd_ll, Z.gAdd_tt, Z.gSub_ii, Z.gMul_ii, Z.gDiv_ii, Z.gMod_ii, Z.gPow_ii, Z.gNeg_i, Z.bV_s, Z.gIx_l, Z.gIx_t, Z.gLen_l, Z.gLen_t, Z.gTup_l, Z.gTup_t, Z.gLst_l, Z.gLst_t, Z.gInt_i, Z.gInt_b, Z.gAbs_i, Z.gNot_b, Z.gZip_tt, Z.gZip_ll, Z.gAll_l, Z.gAny_l, Z.gSum_l, Z.gLRg1, Z.atI_0, Z.atI_1, Z.atI_2, Z.atI_3, Z.gS0, Z.gSj, Z.tS0, Z.tSj, Z.sS0, Z.sSj, Z.tSe, Z.r_lc2, Z.l2_o, Z.tL_l, Z.tL_t, Z.tL_i, Z.blsOf_true, Z.all_true, gEq_ii, gNe_ii, gEq_bb, gNe_bb, gLt_ii, gLe_ii, gGt_ii, gGe_ii, sub_sub_drop, HT.sIx_none, take_self, take_set, len_set, set_set, r_setL, putD, ixN, isi_b, isi2_b, atI_app, dbl, isTy, chd]
          | int v => simp [Z.r_var, Z.r_varK, Z.r_C, Z.r_fn, Z.r_yes, Z.rd_d, Z.rd_r, Z.rdK_l, Z.rdK_f, Z.r_on1, Z.r_on2, Z.o1_s, Z.o2_s, Z.r_outN, Z.oK_v, Z.oK_l, Z.r_m1, Z.m1_o, Z.r_m2, Z.m2_o, Z.m2_p, Z.r_mB, Z.mB_o, Z.r_nil, Z.r_cons, Z.cn_o, Z.cn_p, Z.a1_s, Z.a2_s, Z.pu_nil, Z.pu_cons, Z.puK_s, Z.r_tup, Z.r_lst, Z.tp_s, Z.lt_s, Z.okLen_if, Z.r_fz, Z.fz_d, Z.fz_f, Z.fz_s, Z.fz_r, Z.fzR_l, Z.fzR_f, Z.r_T, Z.t_o, Z.tL_b, Z.r_not, Z.nt_o, Z.r_and, Z.r_or, Z.an_t, Z.an_f, Z.or_t, Z.or_f, Z.r_seq, Z.sq_n, Z.sq_r, Z.sq_b, Z.sq_c, Z.r_drop, Z.dr_o, Z.r_ret, Z.rt_o, Z.r_retN, Z.r_if, Z.if_o, Z.if_t', Z.if_f', Z.r_skip, Z.r_bk, Z.r_ct, Z.r_set, Z.st_o, Z.r_asg, Z.as_o, Z.as_p, Z.g_nm, Z.g_tp, Z.g_nil, Z.g_cons, Z.gc_o, Z.r_par, Z.pr_o, Z.pr_p, Z.sA_nil, Z.sA_cons, Z.r_fnM, Z.fn_n, Z.fn_d, Z.fn_r, Z.fr_l, Z.fr_f, Z.fr_i, Z.r_call, Z.cl_o, Z.r_callV, Z.cv_s, Z.in_r, Z.in_s, Z.r_fld, Z.fd_o, Z.fd_p, Z.fd_q, Z.r_setF, Z.sf_o, Z.sf_p, Z.sf_q, Z.r_meth, Z.mt_o, Z.mt_p, Z.mt_q, Z.r_make, Z.mk_o, Z.mk_p, Z.r_mt, Z.mm_o, Z.mm_p, Z.mm_q, Z.mm_r, Z.mm_s, Z.f_app, Z.f_ext, Z.ex_s, Z.f_popAt, Z.r_setIx, Z.si_o, Z.si_p, Z.si_q, Z.si_r, Z.sl_s, Z.r_augIx, Z.ai_o, Z.ai_p, Z.ai_q, Z.ai_r, Z.ai_s, Z.r_getL, Z.gl_s, Z.ip_add, Z.ip_sub, Z.r_aug, Z.ag_o, Z.ag_p, Z.ag_q, Z.r_ifE, Z.i_t, Z.i_f, Z.i_o, Z.r_andV, Z.av_o, Z.av_t, Z.av_f, Z.onB_K, Z.oBK_s, Z.r_chain, Z.ch_a, Z.ch_b, Z.ch_t, Z.ch_f, Z.ch_d, Z.ch_e, Z.r_chain3, Z.c3_a, Z.c3_b, Z.c3_t, Z.c3_f, Z.c3_d, Z.r_sl, Z.sl_a, Z.sl_b, Z.sl_c, Z.pt_n, Z.pt_s, Z.pt_o, Z.pt_i, Z.gs_d, Z.gs_r, Z.gs_s, Z.gSl_l, Z.gSl_t, Z.r_it, Z.it_l, Z.it_t, Z.r_enum, Z.en_l, Z.en_t, Z.r_rng1, Z.r_rng2, Z.r1_o, Z.r2_o, Z.r_for, Z.fo_o, Z.bd_o, Z.for_nil, Z.fl_n, Z.fl_c, Z.fl_b, Z.fl_r, Z.wc_t, Z.wc_f, Z.wb_n, Z.wb_r, Z.lc_nil, Z.lc_z, Z.lc_t, Z.lc_f, Z.lc_b, Z.lc_c, Z.r_lc, Z.lm_o, Z.lm_p, Z.gAdd_ii, Z.gAdd_ll, Z.gAdd_tt, Z.gSub_ii, Z.gMul_ii, Z.gDiv_ii, Z.gMod_ii, Z.gPow_ii, Z.gNeg_i, Z.bV_s, Z.gIx_l, Z.gIx_t, Z.gLen_l, Z.gLen_t, Z.gTup_l, Z.gTup_t, Z.gLst_l, Z.gLst_t, Z.gInt_i, Z.gInt_b, Z.gAbs_i, Z.gNot_b, Z.gZip_tt, Z.gZip_ll, Z.gAll_l, Z.gAny_l, Z.gSum_l, Z.gLRg1, Z.atI_0, Z.atI_1, Z.atI_2, Z.atI_3, Z.gS0, Z.gSj, Z.tS0, Z.tSj, Z.sS0, Z.sSj, Z.tSe, Z.r_lc2, Z.l2_o, Z.tL_l, Z.tL_t, Z.tL_i, Z.blsOf_true, Z.all_true, gEq_ii, gNe_ii, gEq_bb, gNe_bb, gLt_ii, gLe_ii, gGt_ii, gGe_ii, sub_sub_drop, HT.sIx_none, take_self, take_set, len_set, set_set, r_setL, putD, ixN, isi_b, isi2_b, atI_app, dbl, isTy, chd]
          | str v => simp [Z.r_var, Z.r_varK, Z.r_C, Z.r_fn, Z.r_yes, Z.rd_d, Z.rd_r, Z.rdK_l, Z.rdK_f, Z.r_on1, Z.r_on2, Z.o1_s, Z.o2_s, Z.r_outN, Z.oK_v, Z.oK_l, Z.r_m1, Z.m1_o, Z.r_m2, Z.m2_o, Z.m2_p, Z.r_mB, Z.mB_o, Z.r_nil, Z.r_cons, Z.cn_o, Z.cn_p, Z.a1_s, Z.a2_s, Z.pu_nil, Z.pu_cons, Z.puK_s, Z.r_tup, Z.r_lst, Z.tp_s, Z.lt_s, Z.okLen_if, Z.r_fz, Z.fz_d, Z.fz_f, Z.fz_s, Z.fz_r, Z.fzR_l, Z.fzR_f, Z.r_T, Z.t_o, Z.tL_b, Z.r_not, Z.nt_o, Z.r_and, Z.r_or, Z.an_t, Z.an_f, Z.or_t, Z.or_f, Z.r_seq, Z.sq_n, Z.sq_r, Z.sq_b, Z.sq_c, Z.r_drop, Z.dr_o, Z.r_ret, Z.rt_o, Z.r_retN, Z.r_if, Z.if_o, Z.if_t', Z.if_f', Z.r_skip, Z.r_bk, Z.r_ct, Z.r_set, Z.st_o, Z.r_asg, Z.as_o, Z.as_p, Z.g_nm, Z.g_tp, Z.g_nil, Z.g_cons, Z.gc_o, Z.r_par, Z.pr_o, Z.pr_p, Z.sA_nil, Z.sA_cons, Z.r_fnM, Z.fn_n, Z.fn_d, Z.fn_r, Z.fr_l, Z.fr_f, Z.fr_i, Z.r_call, Z.cl_o, Z.r_callV, Z.cv_s, Z.in_r, Z.in_s, Z.r_fld, Z.fd_o, Z.fd_p, Z.fd_q, Z.r_setF, Z.sf_o, Z.sf_p, Z.sf_q, Z.r_meth, Z.mt_o, Z.mt_p, Z.mt_q, Z.r_make, Z.mk_o, Z.mk_p, Z.r_mt, Z.mm_o, Z.mm_p, Z.mm_q, Z.mm_r, Z.mm_s, Z.f_app, Z.f_ext, Z.ex_s, Z.f_popAt, Z.r_setIx, Z.si_o, Z.si_p, Z.si_q, Z.si_r, Z.sl_s, Z.r_augIx, Z.ai_o, Z.ai_p, Z.ai_q, Z.ai_r, Z.ai_s, Z.r_getL, Z.gl_s, Z.ip_add, Z.ip_sub, Z.r_aug, Z.ag_o, Z.ag_p, Z.ag_q, Z.r_ifE, Z.i_t, Z.i_f, Z.i_o, Z.r_andV, Z.av_o, Z.av_t, Z.av_f, Z.onB_K, Z.oBK_s, Z.r_chain, Z.ch_a, Z.ch_b, Z.ch_t, Z.ch_f, Z.ch_d, Z.ch_e, Z.r_chain3, Z.c3_a, Z.c3_b, Z.c3_t, Z.c3_f, Z.c3_d, Z.r_sl, Z.sl_a, Z.sl_b, Z.sl_c, Z.pt_n, Z.pt_s, Z.pt_o, Z.pt_i, Z.gs_d, Z.gs_r, Z.gs_s, Z.gSl_l, Z.gSl_t, Z.r_it, Z.it_l, Z.it_t, Z.r_enum, Z.en_l, Z.en_t, Z.r_rng1, Z.r_rng2, Z.r1_o, Z.r2_o, Z.r_for, Z.fo_o, Z.bd_o, Z.for_nil, Z.fl_n, Z.fl_c, Z.fl_b, Z.fl_r, Z.wc_t, Z.wc_f, Z.wb_n, Z.wb_r, Z.lc_nil, Z.lc_z, Z.lc_t, Z.lc_f, Z.lc_b, Z.lc_c, Z.r_lc, Z.lm_o, Z.lm_p, Z.gAdd_ii, Z.gAdd_ll, Z.gAdd_tt, Z.gSub_ii, Z.gMul_ii, Z.gDiv_ii, Z.gMod_ii, Z.gPow_ii, Z.gNeg_i, Z.bV_s, Z.gIx_l, Z.gIx_t, Z.gLen_l, Z.gLen_t, Z.gTup_l, Z.gTup_t, Z.gLst_l, Z.gLst_t, Z.gInt_i, Z.gInt_b, Z.gAbs_i, Z.gNot_b, Z.gZip_tt, Z.gZip_ll, Z.gAll_l, Z.gAny_l, Z.gSum_l, Z.gLRg1, Z.atI_0, Z.atI_1, Z.atI_2, Z.atI_3, Z.gS0, Z.gSj, Z.tS0, Z.tSj, Z.sS0, Z.sSj, Z.tSe, Z.r_lc2, Z.l2_o, Z.tL_l, Z.tL_t, Z.tL_i, Z.blsOf_true, Z.all_true, gEq_ii, gNe_ii, gEq_bb, gNe_bb, gLt_ii, gLe_ii, gGt_ii, gGe_ii, sub_sub_drop, HT.sIx_none, take_self, take_set, len_set, set_set, r_setL, putD, ixN, isi_b, isi2_b, atI_app, dbl, isTy, chd, gNe_self hy]
        · refine ⟨some (.d y), some (.d y), ?_, ?_, ?_, ?_⟩
          · simp [alS]
          · simp [alS]
          · intro z hz
            simp only [alS] at hz
            rcases List.mem_append.mp hz with e | e
            · exact h1 z (by simp [e])
            · exact clay_chd y hy z e
          · simp [alS, wts_app, wts] at *
            omega
  · rintro ⟨A, R⟩ E' S' ⟨a, b, rfl, rfl, h1, h2⟩ hf _
    simp [Z.r_var, Z.r_varK, Z.r_C, Z.r_fn, Z.r_yes, Z.rd_d, Z.rd_r, Z.rdK_l, Z.rdK_f, Z.r_on1, Z.r_on2, Z.o1_s, Z.o2_s, Z.r_outN, Z.oK_v, Z.oK_l, Z.r_m1, Z.m1_o, Z.r_m2, Z.m2_o, Z.m2_p, Z.r_mB, Z.mB_o, Z.r_nil, Z.r_cons, Z.cn_o, Z.cn_p, Z.a1_s, Z.a2_s, Z.pu_nil, Z.pu_cons, Z.puK_s, Z.r_tup, Z.r_lst, Z.tp_s, Z.lt_s, Z.okLen_if, Z.r_fz, Z.fz_d, Z.fz_f, Z.fz_s, Z.fz_r, Z.fzR_l, Z.fzR_f, Z.r_T, Z.t_o, Z.tL_b, Z.r_not, Z.nt_o, Z.r_and, Z.r_or, Z.an_t, Z.an_f, Z.or_t, Z.or_f, Z.r_seq, Z.sq_n, Z.sq_r, Z.sq_b, Z.sq_c, Z.r_drop, Z.dr_o, Z.r_ret, Z.rt_o, Z.r_retN, Z.r_if, Z.if_o, Z.if_t', Z.if_f', Z.r_skip, Z.r_bk, Z.r_ct, Z.r_set, Z.st_o, Z.r_asg, Z.as_o, Z.as_p, Z.g_nm, Z.g_tp, Z.g_nil, Z.g_cons, Z.gc_o, Z.r_par, Z.pr_o, Z.pr_p, Z.sA_nil, Z.sA_cons, Z.r_fnM, Z.fn_n, Z.fn_d, Z.fn_r, Z.fr_l, Z.fr_f, Z.fr_i, Z.r_call, Z.cl_o, Z.r_callV, Z.cv_s, Z.in_r, Z.in_s, Z.r_fld, Z.fd_o, Z.fd_p, Z.fd_q, Z.r_setF, Z.sf_o, Z.sf_p, Z.sf_q, Z.r_meth, Z.mt_o, Z.mt_p, Z.mt_q, Z.r_make, Z.mk_o, Z.mk_p, Z.r_mt, Z.mm_o, Z.mm_p, Z.mm_q, Z.mm_r, Z.mm_s, Z.f_app, Z.f_ext, Z.ex_s, Z.f_popAt, Z.r_setIx, Z.si_o, Z.si_p, Z.si_q, Z.si_r, Z.sl_s, Z.r_augIx, Z.ai_o, Z.ai_p, Z.ai_q, Z.ai_r, Z.ai_s, Z.r_getL, Z.gl_s, Z.ip_add, Z.ip_sub, Z.r_aug, Z.ag_o, Z.ag_p, Z.ag_q, Z.r_ifE, Z.i_t, Z.i_f, Z.i_o, Z.r_andV, Z.av_o, Z.av_t, Z.av_f, Z.onB_K, Z.oBK_s, Z.r_chain, Z.ch_a, Z.ch_b, Z.ch_t, Z.ch_f, Z.ch_d, Z.ch_e, Z.r_chain3, Z.c3_a, Z.c3_b, Z.c3_t, Z.c3_f, Z.c3_d, Z.r_sl, Z.sl_a, Z.sl_b, Z.sl_c, Z.pt_n, Z.pt_s, Z.pt_o, Z.pt_i, Z.gs_d, Z.gs_r, Z.gs_s, Z.gSl_l, Z.gSl_t, Z.r_it, Z.it_l, Z.it_t, Z.r_enum, Z.en_l, Z.en_t, Z.r_rng1, Z.r_rng2, Z.r1_o, Z.r2_o, Z.r_for, Z.fo_o, Z.bd_o, Z.for_nil, Z.fl_n, Z.fl_c, Z.fl_b, Z.fl_r, Z.wc_t, Z.wc_f, Z.wb_n, Z.wb_r, Z.lc_nil, Z.lc_z, Z.lc_t, Z.lc_f, Z.lc_b, Z.lc_c, Z.r_lc, Z.lm_o, Z.lm_p, Z.gAdd_ii, Z.gAdd_ll, Z.gAdd_tt, Z.gSub_ii, Z.gMul_ii, Z.gDiv_ii, Z.gMod_ii, Z.gPow_ii, Z.gNeg_i, Z.bV_s, Z.gIx_l, Z.gIx_t, Z.gLen_l, Z.gLen_t, Z.gTup_l, Z.gTup_t, Z.gLst_l, Z.gLst_t, Z.gInt_i, Z.gInt_b, Z.gAbs_i, Z.gNot_b, Z.gZip_tt, Z.gZip_ll, Z.gAll_l, Z.gAny_l, Z.gSum_l, Z.gLRg1, Z.atI_0, Z.atI_1, Z.atI_2, Z.atI_3, Z.gS0, Z.gSj, Z.tS0, Z.tSj, Z.sS0, Z.sSj, Z.tSe, Z.r_lc2, Z.l2_o, Z.tL_l, Z.tL_t, Z.tL_i, Z.blsOf_true, Z.all_true, gEq_ii, gNe_ii, gEq_bb, gNe_bb, gLt_ii, gLe_ii, gGt_ii, gGe_ii, sub_sub_drop, HT.sIx_none, take_self, take_set, len_set, set_set, r_setL, putD, ixN]

theorem someO {o : Ob} {ds : List D} (hb : BagOK o) (h0 : 0 < ds.length) (h1 : ds.length < 1000) :
    ∃ d o', (∀ (S : Sto) (k : Nat), S[k]? = some o → p__law_some [.r k, .d (.list ds)] S = .ok (.d d) (S.set k o')) ∧ BagOK o' ∧ d ∈ ds := by
  obtain ⟨v, o', e, b, v0, v1⟩ := takeO (m := ds.length) hb (by omega) (by omega)
  have hv : v.toNat < ds.length := by omega
  refine ⟨ds[v.toNat], o', fun S k h => ?_, b, List.getElem_mem hv⟩
  have ha : atI ds v = some ds[v.toNat] := by rw [atI_n v0 v1, List.getElem?_eq_getElem hv]
  unfold p__law_some
  simp [m__law_some, Z.r_var, Z.r_varK, Z.r_C, Z.r_fn, Z.r_yes, Z.rd_d, Z.rd_r, Z.rdK_l, Z.rdK_f, Z.r_on1, Z.r_on2, Z.o1_s, Z.o2_s, Z.r_outN, Z.oK_v, Z.oK_l, Z.r_m1, Z.m1_o, Z.r_m2, Z.m2_o, Z.m2_p, Z.r_mB, Z.mB_o, Z.r_nil, Z.r_cons, Z.cn_o, Z.cn_p, Z.a1_s, Z.a2_s, Z.pu_nil, Z.pu_cons, Z.puK_s, Z.r_tup, Z.r_lst, Z.tp_s, Z.lt_s, Z.okLen_if, Z.r_fz, Z.fz_d, Z.fz_f, Z.fz_s, Z.fz_r, Z.fzR_l, Z.fzR_f, Z.r_T, Z.t_o, Z.tL_b, Z.r_not, Z.nt_o, Z.r_and, Z.r_or, Z.an_t, Z.an_f, Z.or_t, Z.or_f, Z.r_seq, Z.sq_n, Z.sq_r, Z.sq_b, Z.sq_c, Z.r_drop, Z.dr_o, Z.r_ret, Z.rt_o, Z.r_retN, Z.r_if, Z.if_o, Z.if_t', Z.if_f', Z.r_skip, Z.r_bk, Z.r_ct, Z.r_set, Z.st_o, Z.r_asg, Z.as_o, Z.as_p, Z.g_nm, Z.g_tp, Z.g_nil, Z.g_cons, Z.gc_o, Z.r_par, Z.pr_o, Z.pr_p, Z.sA_nil, Z.sA_cons, Z.r_fnM, Z.fn_n, Z.fn_d, Z.fn_r, Z.fr_l, Z.fr_f, Z.fr_i, Z.r_call, Z.cl_o, Z.r_callV, Z.cv_s, Z.in_r, Z.in_s, Z.r_fld, Z.fd_o, Z.fd_p, Z.fd_q, Z.r_setF, Z.sf_o, Z.sf_p, Z.sf_q, Z.r_meth, Z.mt_o, Z.mt_p, Z.mt_q, Z.r_make, Z.mk_o, Z.mk_p, Z.r_mt, Z.mm_o, Z.mm_p, Z.mm_q, Z.mm_r, Z.mm_s, Z.f_app, Z.f_ext, Z.ex_s, Z.f_popAt, Z.r_setIx, Z.si_o, Z.si_p, Z.si_q, Z.si_r, Z.sl_s, Z.r_augIx, Z.ai_o, Z.ai_p, Z.ai_q, Z.ai_r, Z.ai_s, Z.r_getL, Z.gl_s, Z.ip_add, Z.ip_sub, Z.r_aug, Z.ag_o, Z.ag_p, Z.ag_q, Z.r_ifE, Z.i_t, Z.i_f, Z.i_o, Z.r_andV, Z.av_o, Z.av_t, Z.av_f, Z.onB_K, Z.oBK_s, Z.r_chain, Z.ch_a, Z.ch_b, Z.ch_t, Z.ch_f, Z.ch_d, Z.ch_e, Z.r_chain3, Z.c3_a, Z.c3_b, Z.c3_t, Z.c3_f, Z.c3_d, Z.r_sl, Z.sl_a, Z.sl_b, Z.sl_c, Z.pt_n, Z.pt_s, Z.pt_o, Z.pt_i, Z.gs_d, Z.gs_r, Z.gs_s, Z.gSl_l, Z.gSl_t, Z.r_it, Z.it_l, Z.it_t, Z.r_enum, Z.en_l, Z.en_t, Z.r_rng1, Z.r_rng2, Z.r1_o, Z.r2_o, Z.r_for, Z.fo_o, Z.bd_o, Z.for_nil, Z.fl_n, Z.fl_c, Z.fl_b, Z.fl_r, Z.wc_t, Z.wc_f, Z.wb_n, Z.wb_r, Z.lc_nil, Z.lc_z, Z.lc_t, Z.lc_f, Z.lc_b, Z.lc_c, Z.r_lc, Z.lm_o, Z.lm_p, Z.gAdd_ii, Z.gAdd_ll, Z.gAdd_tt, Z.gSub_ii, Z.gMul_ii, Z.gDiv_ii, Z.gMod_ii, Z.gPow_ii, Z.gNeg_i, Z.bV_s, Z.gIx_l, Z.gIx_t, Z.gLen_l, Z.gLen_t, Z.gTup_l, Z.gTup_t, Z.gLst_l, Z.gLst_t, Z.gInt_i, Z.gInt_b, Z.gAbs_i, Z.gNot_b, Z.gZip_tt, Z.gZip_ll, Z.gAll_l, Z.gAny_l, Z.gSum_l, Z.gLRg1, Z.atI_0, Z.atI_1, Z.atI_2, Z.atI_3, Z.gS0, Z.gSj, Z.tS0, Z.tSj, Z.sS0, Z.sSj, Z.tSe, Z.r_lc2, Z.l2_o, Z.tL_l, Z.tL_t, Z.tL_i, Z.blsOf_true, Z.all_true, gEq_ii, gNe_ii, gEq_bb, gNe_bb, gLt_ii, gLe_ii, gGt_ii, gGe_ii, sub_sub_drop, HT.sIx_none, take_self, take_set, len_set, set_set, r_setL, putD, ixN, e S k h, ha]
def absD : D → D
  | .int i => .int (if i < 0 then -i else i)
  | d => d
theorem map_abs (ns : List Int) : (ns.map PyData.int).map absD = (ns.map fun i => if i < 0 then -i else i).map PyData.int := by
  induction ns with
  | nil => rfl
  | cons n ns ih => simp [absD]
theorem bag_ok {S : Sto} {ns : List Int} : ∃ o, p__law_bag [.s ns] S = .ok (.r S.length) (S ++ [o]) ∧ BagOK o := by
  refine ⟨BagL 0 1234567891 (0 : Nat) ((ns.take 63).map fun i => if i < 0 then -i else i), ?_, bag_mk (by omega) (by omega) (by omega) (fun c hc => ?_) (by rw [List.length_map, List.length_take]; omega)⟩
  · unfold p__law_bag
    simp [m__law_bag, Z.r_var, Z.r_varK, Z.r_C, Z.r_fn, Z.r_yes, Z.rd_d, Z.rd_r, Z.rdK_l, Z.rdK_f, Z.r_on1, Z.r_on2, Z.o1_s, Z.o2_s, Z.r_outN, Z.oK_v, Z.oK_l, Z.r_m1, Z.m1_o, Z.r_m2, Z.m2_o, Z.m2_p, Z.r_mB, Z.mB_o, Z.r_nil, Z.r_cons, Z.cn_o, Z.cn_p, Z.a1_s, Z.a2_s, Z.pu_nil, Z.pu_cons, Z.puK_s, Z.r_tup, Z.r_lst, Z.tp_s, Z.lt_s, Z.okLen_if, Z.r_fz, Z.fz_d, Z.fz_f, Z.fz_s, Z.fz_r, Z.fzR_l, Z.fzR_f, Z.r_T, Z.t_o, Z.tL_b, Z.r_not, Z.nt_o, Z.r_and, Z.r_or, Z.an_t, Z.an_f, Z.or_t, Z.or_f, Z.r_seq, Z.sq_n, Z.sq_r, Z.sq_b, Z.sq_c, Z.r_drop, Z.dr_o, Z.r_ret, Z.rt_o, Z.r_retN, Z.r_if, Z.if_o, Z.if_t', Z.if_f', Z.r_skip, Z.r_bk, Z.r_ct, Z.r_set, Z.st_o, Z.r_asg, Z.as_o, Z.as_p, Z.g_nm, Z.g_tp, Z.g_nil, Z.g_cons, Z.gc_o, Z.r_par, Z.pr_o, Z.pr_p, Z.sA_nil, Z.sA_cons, Z.r_fnM, Z.fn_n, Z.fn_d, Z.fn_r, Z.fr_l, Z.fr_f, Z.fr_i, Z.r_call, Z.cl_o, Z.r_callV, Z.cv_s, Z.in_r, Z.in_s, Z.r_fld, Z.fd_o, Z.fd_p, Z.fd_q, Z.r_setF, Z.sf_o, Z.sf_p, Z.sf_q, Z.r_meth, Z.mt_o, Z.mt_p, Z.mt_q, Z.r_make, Z.mk_o, Z.mk_p, Z.r_mt, Z.mm_o, Z.mm_p, Z.mm_q, Z.mm_r, Z.mm_s, Z.f_app, Z.f_ext, Z.ex_s, Z.f_popAt, Z.r_setIx, Z.si_o, Z.si_p, Z.si_q, Z.si_r, Z.sl_s, Z.r_augIx, Z.ai_o, Z.ai_p, Z.ai_q, Z.ai_r, Z.ai_s, Z.r_getL, Z.gl_s, Z.ip_add, Z.ip_sub, Z.r_aug, Z.ag_o, Z.ag_p, Z.ag_q, Z.r_ifE, Z.i_t, Z.i_f, Z.i_o, Z.r_andV, Z.av_o, Z.av_t, Z.av_f, Z.onB_K, Z.oBK_s, Z.r_chain, Z.ch_a, Z.ch_b, Z.ch_t, Z.ch_f, Z.ch_d, Z.ch_e, Z.r_chain3, Z.c3_a, Z.c3_b, Z.c3_t, Z.c3_f, Z.c3_d, Z.r_sl, Z.sl_a, Z.sl_b, Z.sl_c, Z.pt_n, Z.pt_s, Z.pt_o, Z.pt_i, Z.gs_d, Z.gs_r, Z.gs_s, Z.gSl_l, Z.gSl_t, Z.r_it, Z.it_l, Z.it_t, Z.r_enum, Z.en_l, Z.en_t, Z.r_rng1, Z.r_rng2, Z.r1_o, Z.r2_o, Z.r_for, Z.fo_o, Z.bd_o, Z.for_nil, Z.fl_n, Z.fl_c, Z.fl_b, Z.fl_r, Z.wc_t, Z.wc_f, Z.wb_n, Z.wb_r, Z.lc_nil, Z.lc_z, Z.lc_t, Z.lc_f, Z.lc_b, Z.lc_c, Z.r_lc, Z.lm_o, Z.lm_p, Z.gAdd_ii, Z.gAdd_ll, Z.gAdd_tt, Z.gSub_ii, Z.gMul_ii, Z.gDiv_ii, Z.gMod_ii, Z.gPow_ii, Z.gNeg_i, Z.bV_s, Z.gIx_l, Z.gIx_t, Z.gLen_l, Z.gLen_t, Z.gTup_l, Z.gTup_t, Z.gLst_l, Z.gLst_t, Z.gInt_i, Z.gInt_b, Z.gAbs_i, Z.gNot_b, Z.gZip_tt, Z.gZip_ll, Z.gAll_l, Z.gAny_l, Z.gSum_l, Z.gLRg1, Z.atI_0, Z.atI_1, Z.atI_2, Z.atI_3, Z.gS0, Z.gSj, Z.tS0, Z.tSj, Z.sS0, Z.sSj, Z.tSe, Z.r_lc2, Z.l2_o, Z.tL_l, Z.tL_t, Z.tL_i, Z.blsOf_true, Z.all_true, gEq_ii, gNe_ii, gEq_bb, gNe_bb, gLt_ii, gLe_ii, gGt_ii, gGe_ii, sub_sub_drop, HT.sIx_none, take_self, take_set, len_set, set_set, r_setL, putD, ixN]
    rw [lc_map absD]
    · simp [Z.r_var, Z.r_varK, Z.r_C, Z.r_fn, Z.r_yes, Z.rd_d, Z.rd_r, Z.rdK_l, Z.rdK_f, Z.r_on1, Z.r_on2, Z.o1_s, Z.o2_s, Z.r_outN, Z.oK_v, Z.oK_l, Z.r_m1, Z.m1_o, Z.r_m2, Z.m2_o, Z.m2_p, Z.r_mB, Z.mB_o, Z.r_nil, Z.r_cons, Z.cn_o, Z.cn_p, Z.a1_s, Z.a2_s, Z.pu_nil, Z.pu_cons, Z.puK_s, Z.r_tup, Z.r_lst, Z.tp_s, Z.lt_s, Z.okLen_if, Z.r_fz, Z.fz_d, Z.fz_f, Z.fz_s, Z.fz_r, Z.fzR_l, Z.fzR_f, Z.r_T, Z.t_o, Z.tL_b, Z.r_not, Z.nt_o, Z.r_and, Z.r_or, Z.an_t, Z.an_f, Z.or_t, Z.or_f, Z.r_seq, Z.sq_n, Z.sq_r, Z.sq_b, Z.sq_c, Z.r_drop, Z.dr_o, Z.r_ret, Z.rt_o, Z.r_retN, Z.r_if, Z.if_o, Z.if_t', Z.if_f', Z.r_skip, Z.r_bk, Z.r_ct, Z.r_set, Z.st_o, Z.r_asg, Z.as_o, Z.as_p, Z.g_nm, Z.g_tp, Z.g_nil, Z.g_cons, Z.gc_o, Z.r_par, Z.pr_o, Z.pr_p, Z.sA_nil, Z.sA_cons, Z.r_fnM, Z.fn_n, Z.fn_d, Z.fn_r, Z.fr_l, Z.fr_f, Z.fr_i, Z.r_call, Z.cl_o, Z.r_callV, Z.cv_s, Z.in_r, Z.in_s, Z.r_fld, Z.fd_o, Z.fd_p, Z.fd_q, Z.r_setF, Z.sf_o, Z.sf_p, Z.sf_q, Z.r_meth, Z.mt_o, Z.mt_p, Z.mt_q, Z.r_make, Z.mk_o, Z.mk_p, Z.r_mt, Z.mm_o, Z.mm_p, Z.mm_q, Z.mm_r, Z.mm_s, Z.f_app, Z.f_ext, Z.ex_s, Z.f_popAt, Z.r_setIx, Z.si_o, Z.si_p, Z.si_q, Z.si_r, Z.sl_s, Z.r_augIx, Z.ai_o, Z.ai_p, Z.ai_q, Z.ai_r, Z.ai_s, Z.r_getL, Z.gl_s, Z.ip_add, Z.ip_sub, Z.r_aug, Z.ag_o, Z.ag_p, Z.ag_q, Z.r_ifE, Z.i_t, Z.i_f, Z.i_o, Z.r_andV, Z.av_o, Z.av_t, Z.av_f, Z.onB_K, Z.oBK_s, Z.r_chain, Z.ch_a, Z.ch_b, Z.ch_t, Z.ch_f, Z.ch_d, Z.ch_e, Z.r_chain3, Z.c3_a, Z.c3_b, Z.c3_t, Z.c3_f, Z.c3_d, Z.r_sl, Z.sl_a, Z.sl_b, Z.sl_c, Z.pt_n, Z.pt_s, Z.pt_o, Z.pt_i, Z.gs_d, Z.gs_r, Z.gs_s, Z.gSl_l, Z.gSl_t, Z.r_it, Z.it_l, Z.it_t, Z.r_enum, Z.en_l, Z.en_t, Z.r_rng1, Z.r_rng2, Z.r1_o, Z.r2_o, Z.r_for, Z.fo_o, Z.bd_o, Z.for_nil, Z.fl_n, Z.fl_c, Z.fl_b, Z.fl_r, Z.wc_t, Z.wc_f, Z.wb_n, Z.wb_r, Z.lc_nil, Z.lc_z, Z.lc_t, Z.lc_f, Z.lc_b, Z.lc_c, Z.r_lc, Z.lm_o, Z.lm_p, Z.gAdd_ii, Z.gAdd_ll, Z.gAdd_tt, Z.gSub_ii, Z.gMul_ii, Z.gDiv_ii, Z.gMod_ii, Z.gPow_ii, Z.gNeg_i, Z.bV_s, Z.gIx_l, Z.gIx_t, Z.gLen_l, Z.gLen_t, Z.gTup_l, Z.gTup_t, Z.gLst_l, Z.gLst_t, Z.gInt_i, Z.gInt_b, Z.gAbs_i, Z.gNot_b, Z.gZip_tt, Z.gZip_ll, Z.gAll_l, Z.gAny_l, Z.gSum_l, Z.gLRg1, Z.atI_0, Z.atI_1, Z.atI_2, Z.atI_3, Z.gS0, Z.gSj, Z.tS0, Z.tSj, Z.sS0, Z.sSj, Z.tSe, Z.r_lc2, Z.l2_o, Z.tL_l, Z.tL_t, Z.tL_i, Z.blsOf_true, Z.all_true, gEq_ii, gNe_ii, gEq_bb, gNe_bb, gLt_ii, gLe_ii, gGt_ii, gGe_ii, sub_sub_drop, HT.sIx_none, take_self, take_set, len_set, set_set, r_setL, putD, ixN, BagL, show HT.sIx ns.length ns.length (some 63) = min 63 ns.length from HT.sIx_nat ns.length ns.length 63]
      rw [show absD ∘ PyData.int = PyData.int ∘ fun i => if i < 0 then -i else i from rfl, List.take_eq_take_iff]
      simp
    · rw [List.length_take, show HT.sIx ns.length ns.length (some 63) = min 63 ns.length from HT.sIx_nat ns.length ns.length 63]
      omega
    · intro d hd acc
      obtain ⟨i, _, rfl⟩ := List.mem_map.mp (List.mem_of_mem_take hd)
      refine ⟨[some (.s ns), some (.d (.int i))], ?_, ?_, ?_⟩ <;> simp [Z.r_var, Z.r_varK, Z.r_C, Z.r_fn, Z.r_yes, Z.rd_d, Z.rd_r, Z.rdK_l, Z.rdK_f, Z.r_on1, Z.r_on2, Z.o1_s, Z.o2_s, Z.r_outN, Z.oK_v, Z.oK_l, Z.r_m1, Z.m1_o, Z.r_m2, Z.m2_o, Z.m2_p, Z.r_mB, Z.mB_o, Z.r_nil, Z.r_cons, Z.cn_o, Z.cn_p, Z.a1_s, Z.a2_s, Z.pu_nil, Z.pu_cons, Z.puK_s, Z.r_tup, Z.r_lst, Z.tp_s, Z.lt_s, Z.okLen_if, Z.r_fz, Z.fz_d, Z.fz_f, Z.fz_s, Z.fz_r, Z.fzR_l, Z.fzR_f, Z.r_T, Z.t_o, Z.tL_b, Z.r_not, Z.nt_o, Z.r_and, Z.r_or, Z.an_t, Z.an_f, Z.or_t, Z.or_f, Z.r_seq, Z.sq_n, Z.sq_r, Z.sq_b, Z.sq_c, Z.r_drop, Z.dr_o, Z.r_ret, Z.rt_o, Z.r_retN, Z.r_if, Z.if_o, Z.if_t', Z.if_f', Z.r_skip, Z.r_bk, Z.r_ct, Z.r_set, Z.st_o, Z.r_asg, Z.as_o, Z.as_p, Z.g_nm, Z.g_tp, Z.g_nil, Z.g_cons, Z.gc_o, Z.r_par, Z.pr_o, Z.pr_p, Z.sA_nil, Z.sA_cons, Z.r_fnM, Z.fn_n, Z.fn_d, Z.fn_r, Z.fr_l, Z.fr_f, Z.fr_i, Z.r_call, Z.cl_o, Z.r_callV, Z.cv_s, Z.in_r, Z.in_s, Z.r_fld, Z.fd_o, Z.fd_p, Z.fd_q, Z.r_setF, Z.sf_o, Z.sf_p, Z.sf_q, Z.r_meth, Z.mt_o, Z.mt_p, Z.mt_q, Z.r_make, Z.mk_o, Z.mk_p, Z.r_mt, Z.mm_o, Z.mm_p, Z.mm_q, Z.mm_r, Z.mm_s, Z.f_app, Z.f_ext, Z.ex_s, Z.f_popAt, Z.r_setIx, Z.si_o, Z.si_p, Z.si_q, Z.si_r, Z.sl_s, Z.r_augIx, Z.ai_o, Z.ai_p, Z.ai_q, Z.ai_r, Z.ai_s, Z.r_getL, Z.gl_s, Z.ip_add, Z.ip_sub, Z.r_aug, Z.ag_o, Z.ag_p, Z.ag_q, Z.r_ifE, Z.i_t, Z.i_f, Z.i_o, Z.r_andV, Z.av_o, Z.av_t, Z.av_f, Z.onB_K, Z.oBK_s, Z.r_chain, Z.ch_a, Z.ch_b, Z.ch_t, Z.ch_f, Z.ch_d, Z.ch_e, Z.r_chain3, Z.c3_a, Z.c3_b, Z.c3_t, Z.c3_f, Z.c3_d, Z.r_sl, Z.sl_a, Z.sl_b, Z.sl_c, Z.pt_n, Z.pt_s, Z.pt_o, Z.pt_i, Z.gs_d, Z.gs_r, Z.gs_s, Z.gSl_l, Z.gSl_t, Z.r_it, Z.it_l, Z.it_t, Z.r_enum, Z.en_l, Z.en_t, Z.r_rng1, Z.r_rng2, Z.r1_o, Z.r2_o, Z.r_for, Z.fo_o, Z.bd_o, Z.for_nil, Z.fl_n, Z.fl_c, Z.fl_b, Z.fl_r, Z.wc_t, Z.wc_f, Z.wb_n, Z.wb_r, Z.lc_nil, Z.lc_z, Z.lc_t, Z.lc_f, Z.lc_b, Z.lc_c, Z.r_lc, Z.lm_o, Z.lm_p, Z.gAdd_ii, Z.gAdd_ll, Z.gAdd_tt, Z.gSub_ii, Z.gMul_ii, Z.gDiv_ii, Z.gMod_ii, Z.gPow_ii, Z.gNeg_i, Z.bV_s, Z.gIx_l, Z.gIx_t, Z.gLen_l, Z.gLen_t, Z.gTup_l, Z.gTup_t, Z.gLst_l, Z.gLst_t, Z.gInt_i, Z.gInt_b, Z.gAbs_i, Z.gNot_b, Z.gZip_tt, Z.gZip_ll, Z.gAll_l, Z.gAny_l, Z.gSum_l, Z.gLRg1, Z.atI_0, Z.atI_1, Z.atI_2, Z.atI_3, Z.gS0, Z.gSj, Z.tS0, Z.tSj, Z.sS0, Z.sSj, Z.tSe, Z.r_lc2, Z.l2_o, Z.tL_l, Z.tL_t, Z.tL_i, Z.blsOf_true, Z.all_true, gEq_ii, gNe_ii, gEq_bb, gNe_bb, gLt_ii, gLe_ii, gGt_ii, gGe_ii, sub_sub_drop, HT.sIx_none, take_self, take_set, len_set, set_set, r_setL, putD, ixN, wipeE, absD]
  · obtain ⟨i, _, e⟩ := List.mem_map.mp hc
    rw [← e]
    split <;> omega
/-! draws at the end of the store -/
theorem dt0 {S T : Sto} {z m : Int} (h1 : 0 ≤ z) (h2 : z < 2147483647) (hm : 0 < m) : p_Draws_take [.r S.length, .d (.int m)] (S ++ DrO z :: T) = .ok (.d (.int (dr (nxt z) m))) (S ++ DrO (nxt z) :: T) := by
  rw [Draws_take_ok (z := z) (by rw [gS0 rfl]; rfl) h1 h2 hm, sS0 rfl]
  rfl
theorem ld0 {S T : Sto} {z m : Int} (h1 : 0 ≤ z) (h2 : z < 2147483647) (hm : 0 < m) : p__law_draw [.r S.length, .d (.int m)] (S ++ OwO z :: T) = .ok (.d (.int (dr (nxt z) m))) (S ++ OwO (nxt z) :: T) := by
  rw [law_draw_ok (z := z) (by rw [gS0 rfl]; rfl) h1 h2 hm, sS0 rfl]
  rfl
theorem mk0 {S : Sto} {z : Int} : p_Draws___init__ [.r S.length, .d (.int z)] (S ++ [.ins "Draws" []]) = .ok (.d .none) (S ++ [DrO (z % 2147483647)]) := by
  rw [Draws_init_ok (by rw [gS0 rfl]; rfl), sS0 rfl]
  rfl
def spanS (lg : Int) (s : Int × List D) (_ : D) : Int × List D := (nxt (nxt s.1), s.2 ++ [.tuple [.int (dr (nxt s.1) 100), .int (dr (nxt s.1) 100 + dr (nxt (nxt s.1)) lg)]])
def spans (n : Nat) (lg z : Int) : List D := ((rgD 0 n).foldl (spanS lg) (z % 2147483647, [])).2
theorem rgD_len (lo : Int) (n : Nat) : (rgD lo n).length = n := by unfold rgD; simp
theorem drawn_spans_ok {S : Sto} {seed many lg : Int} (h0 : 0 ≤ many) (h1 : many ≤ 1000000) (hl : 0 < lg) : p_drawn_spans [.d (.int seed), .d (.int many), .d (.int lg)] S = .ok (.d (.tuple (spans many.toNat lg seed))) S := by
  unfold p_drawn_spans
  simp [m_drawn_spans, Z.r_var, Z.r_varK, Z.r_C, Z.r_fn, Z.r_yes, Z.rd_d, Z.rd_r, Z.rdK_l, Z.rdK_f, Z.r_on1, Z.r_on2, Z.o1_s, Z.o2_s, Z.r_outN, Z.oK_v, Z.oK_l, Z.r_m1, Z.m1_o, Z.r_m2, Z.m2_o, Z.m2_p, Z.r_mB, Z.mB_o, Z.r_nil, Z.r_cons, Z.cn_o, Z.cn_p, Z.a1_s, Z.a2_s, Z.pu_nil, Z.pu_cons, Z.puK_s, Z.r_tup, Z.r_lst, Z.tp_s, Z.lt_s, Z.okLen_if, Z.r_fz, Z.fz_d, Z.fz_f, Z.fz_s, Z.fz_r, Z.fzR_l, Z.fzR_f, Z.r_T, Z.t_o, Z.tL_b, Z.r_not, Z.nt_o, Z.r_and, Z.r_or, Z.an_t, Z.an_f, Z.or_t, Z.or_f, Z.r_seq, Z.sq_n, Z.sq_r, Z.sq_b, Z.sq_c, Z.r_drop, Z.dr_o, Z.r_ret, Z.rt_o, Z.r_retN, Z.r_if, Z.if_o, Z.if_t', Z.if_f', Z.r_skip, Z.r_bk, Z.r_ct, Z.r_set, Z.st_o, Z.r_asg, Z.as_o, Z.as_p, Z.g_nm, Z.g_tp, Z.g_nil, Z.g_cons, Z.gc_o, Z.r_par, Z.pr_o, Z.pr_p, Z.sA_nil, Z.sA_cons, Z.r_fnM, Z.fn_n, Z.fn_d, Z.fn_r, Z.fr_l, Z.fr_f, Z.fr_i, Z.r_call, Z.cl_o, Z.r_callV, Z.cv_s, Z.in_r, Z.in_s, Z.r_fld, Z.fd_o, Z.fd_p, Z.fd_q, Z.r_setF, Z.sf_o, Z.sf_p, Z.sf_q, Z.r_meth, Z.mt_o, Z.mt_p, Z.mt_q, Z.r_make, Z.mk_o, Z.mk_p, Z.r_mt, Z.mm_o, Z.mm_p, Z.mm_q, Z.mm_r, Z.mm_s, Z.f_app, Z.f_ext, Z.ex_s, Z.f_popAt, Z.r_setIx, Z.si_o, Z.si_p, Z.si_q, Z.si_r, Z.sl_s, Z.r_augIx, Z.ai_o, Z.ai_p, Z.ai_q, Z.ai_r, Z.ai_s, Z.r_getL, Z.gl_s, Z.ip_add, Z.ip_sub, Z.r_aug, Z.ag_o, Z.ag_p, Z.ag_q, Z.r_ifE, Z.i_t, Z.i_f, Z.i_o, Z.r_andV, Z.av_o, Z.av_t, Z.av_f, Z.onB_K, Z.oBK_s, Z.r_chain, Z.ch_a, Z.ch_b, Z.ch_t, Z.ch_f, Z.ch_d, Z.ch_e, Z.r_chain3, Z.c3_a, Z.c3_b, Z.c3_t, Z.c3_f, Z.c3_d, Z.r_sl, Z.sl_a, Z.sl_b, Z.sl_c, Z.pt_n, Z.pt_s, Z.pt_o, Z.pt_i, Z.gs_d, Z.gs_r, Z.gs_s, Z.gSl_l, Z.gSl_t, Z.r_it, Z.it_l, Z.it_t, Z.r_enum, Z.en_l, Z.en_t, Z.r_rng1, Z.r_rng2, Z.r1_o, Z.r2_o, Z.r_for, Z.fo_o, Z.bd_o, Z.for_nil, Z.fl_n, Z.fl_c, Z.fl_b, Z.fl_r, Z.wc_t, Z.wc_f, Z.wb_n, Z.wb_r, Z.lc_nil, Z.lc_z, Z.lc_t, Z.lc_f, Z.lc_b, Z.lc_c, Z.r_lc, Z.lm_o, Z.lm_p, Z.gAdd_ii, Z.gAdd_ll, Z.gAdd_tt, Z.gSub_ii, Z.gMul_ii, Z.gDiv_ii, Z.gMod_ii, Z.gPow_ii, Z.gNeg_i, Z.bV_s, Z.gIx_l, Z.gIx_t, Z.gLen_l, Z.gLen_t, Z.gTup_l, Z.gTup_t, Z.gLst_l, Z.gLst_t, Z.gInt_i, Z.gInt_b, Z.gAbs_i, Z.gNot_b, Z.gZip_tt, Z.gZip_ll, Z.gAll_l, Z.gAny_l, Z.gSum_l, Z.gLRg1, Z.atI_0, Z.atI_1, Z.atI_2, Z.atI_3, Z.gS0, Z.gSj, Z.tS0, Z.tSj, Z.sS0, Z.sSj, Z.tSe, Z.r_lc2, Z.l2_o, Z.tL_l, Z.tL_t, Z.tL_i, Z.blsOf_true, Z.all_true, gEq_ii, gNe_ii, gEq_bb, gNe_bb, gLt_ii, gLe_ii, gGt_ii, gGe_ii, sub_sub_drop, HT.sIx_none, take_self, take_set, len_set, set_set, r_setL, putD, ixN, mk0, sm62 (show -1000000000 ≤ many by omega) (by omega)]
  refine for_then (fun o => fnK S.length (sqK _ o)) (fun r s E S' => ∃ a b, E = [some (.d (.int seed)), some (.d (.int many)), some (.d (.int lg)), some (.r S.length), some (.r (S.length + 1)), a, b] ∧ S' = S ++ [DrO s.1, .lst s.2] ∧ 0 ≤ s.1 ∧ s.1 < 2147483647 ∧ s.2.length + r ≤ 1000000)
    (spanS lg) (seed % 2147483647, []) ?_ ?_ ?_
  · exact ⟨none, none, rfl, rfl, (emod_rng _ (by omega)).1, (emod_rng _ (by omega)).2, by rw [rgD_len]; simp; omega⟩
  · rintro r ⟨z, f⟩ d E S' hd ⟨a, b, rfl, rfl, z0, z1, hr⟩
    dsimp only at *
    have q1 := nxt_lo z
    have q2 := nxt_hi z
    refine ⟨[some (.d (.int seed)), some (.d (.int many)), some (.d (.int lg)), some (.r S.length), some (.r (S.length + 1)), some (.d d), some (.d (.int (dr (nxt z) 100)))], S ++ [DrO (nxt (nxt z)), .lst (spanS lg (z, f) d).2], .inl ?_, ?_⟩
    · have hf : f.length < 16777216 := by omega
      simp [Z.r_var, Z.r_varK, Z.r_C, Z.r_fn, Z.r_yes, Z.rd_d, Z.rd_r, Z.rdK_l, Z.rdK_f, Z.r_on1, Z.r_on2, Z.o1_s, Z.o2_s, Z.r_outN, Z.oK_v, Z.oK_l, Z.r_m1, Z.m1_o, Z.r_m2, Z.m2_o, Z.m2_p, Z.r_mB, Z.mB_o, Z.r_nil, Z.r_cons, Z.cn_o, Z.cn_p, Z.a1_s, Z.a2_s, Z.pu_nil, Z.pu_cons, Z.puK_s, Z.r_tup, Z.r_lst, Z.tp_s, Z.lt_s, Z.okLen_if, Z.r_fz, Z.fz_d, Z.fz_f, Z.fz_s, Z.fz_r, Z.fzR_l, Z.fzR_f, Z.r_T, Z.t_o, Z.tL_b, Z.r_not, Z.nt_o, Z.r_and, Z.r_or, Z.an_t, Z.an_f, Z.or_t, Z.or_f, Z.r_seq, Z.sq_n, Z.sq_r, Z.sq_b, Z.sq_c, Z.r_drop, Z.dr_o, Z.r_ret, Z.rt_o, Z.r_retN, Z.r_if, Z.if_o, Z.if_t', Z.if_f', Z.r_skip, Z.r_bk, Z.r_ct, Z.r_set, Z.st_o, Z.r_asg, Z.as_o, Z.as_p, Z.g_nm, Z.g_tp, Z.g_nil, Z.g_cons, Z.gc_o, Z.r_par, Z.pr_o, Z.pr_p, Z.sA_nil, Z.sA_cons, Z.r_fnM, Z.fn_n, Z.fn_d, Z.fn_r, Z.fr_l, Z.fr_f, Z.fr_i, Z.r_call, Z.cl_o, Z.r_callV, Z.cv_s, Z.in_r, Z.in_s, Z.r_fld, Z.fd_o, Z.fd_p, Z.fd_q, Z.r_setF, Z.sf_o, Z.sf_p, Z.sf_q, Z.r_meth, Z.mt_o, Z.mt_p, Z.mt_q, Z.r_make, Z.mk_o, Z.mk_p, Z.r_mt, Z.mm_o, Z.mm_p, Z.mm_q, Z.mm_r, Z.mm_s, Z.f_app, Z.f_ext, Z.ex_s, Z.f_popAt, Z.r_setIx, Z.si_o, Z.si_p, Z.si_q, Z.si_r, Z.sl_s, Z.r_augIx, Z.ai_o, Z.ai_p, Z.ai_q, Z.ai_r, Z.ai_s, Z.r_getL, Z.gl_s, Z.ip_add, Z.ip_sub, Z.r_aug, Z.ag_o, Z.ag_p, Z.ag_q, Z.r_ifE, Z.i_t, Z.i_f, Z.i_o, Z.r_andV, Z.av_o, Z.av_t, Z.av_f, Z.onB_K, Z.oBK_s, Z.r_chain, Z.ch_a, Z.ch_b, Z.ch_t, Z.ch_f, Z.ch_d, Z.ch_e, Z.r_chain3, Z.c3_a, Z.c3_b, Z.c3_t, Z.c3_f, Z.c3_d, Z.r_sl, Z.sl_a, Z.sl_b, Z.sl_c, Z.pt_n, Z.pt_s, Z.pt_o, Z.pt_i, Z.gs_d, Z.gs_r, Z.gs_s, Z.gSl_l, Z.gSl_t, Z.r_it, Z.it_l, Z.it_t, Z.r_enum, Z.en_l, Z.en_t, Z.r_rng1, Z.r_rng2, Z.r1_o, Z.r2_o, Z.r_for, Z.fo_o, Z.bd_o, Z.for_nil, Z.fl_n, Z.fl_c, Z.fl_b, Z.fl_r, Z.wc_t, Z.wc_f, Z.wb_n, Z.wb_r, Z.lc_nil, Z.lc_z, Z.lc_t, Z.lc_f, Z.lc_b, Z.lc_c, Z.r_lc, Z.lm_o, Z.lm_p, Z.gAdd_ii, Z.gAdd_ll, Z.gAdd_tt, Z.gSub_ii, Z.gMul_ii, Z.gDiv_ii, Z.gMod_ii, Z.gPow_ii, Z.gNeg_i, Z.bV_s, Z.gIx_l, Z.gIx_t, Z.gLen_l, Z.gLen_t, Z.gTup_l, Z.gTup_t, Z.gLst_l, Z.gLst_t, Z.gInt_i, Z.gInt_b, Z.gAbs_i, Z.gNot_b, Z.gZip_tt, Z.gZip_ll, Z.gAll_l, Z.gAny_l, Z.gSum_l, Z.gLRg1, Z.atI_0, Z.atI_1, Z.atI_2, Z.atI_3, Z.gS0, Z.gSj, Z.tS0, Z.tSj, Z.sS0, Z.sSj, Z.tSe, Z.r_lc2, Z.l2_o, Z.tL_l, Z.tL_t, Z.tL_i, Z.blsOf_true, Z.all_true, gEq_ii, gNe_ii, gEq_bb, gNe_bb, gLt_ii, gLe_ii, gGt_ii, gGe_ii, sub_sub_drop, HT.sIx_none, take_self, take_set, len_set, set_set, r_setL, putD, ixN, mtT, dt0 z0 z1, dt0 q1 q2, hl, hf, spanS]
    · exact ⟨_, _, rfl, rfl, nxt_lo _, nxt_hi _, by simp [spanS]; omega⟩
  · rintro E' S' ⟨a, b, rfl, rfl, _, _, _⟩
    simp [Z.r_var, Z.r_varK, Z.r_C, Z.r_fn, Z.r_yes, Z.rd_d, Z.rd_r, Z.rdK_l, Z.rdK_f, Z.r_on1, Z.r_on2, Z.o1_s, Z.o2_s, Z.r_outN, Z.oK_v, Z.oK_l, Z.r_m1, Z.m1_o, Z.r_m2, Z.m2_o, Z.m2_p, Z.r_mB, Z.mB_o, Z.r_nil, Z.r_cons, Z.cn_o, Z.cn_p, Z.a1_s, Z.a2_s, Z.pu_nil, Z.pu_cons, Z.puK_s, Z.r_tup, Z.r_lst, Z.tp_s, Z.lt_s, Z.okLen_if, Z.r_fz, Z.fz_d, Z.fz_f, Z.fz_s, Z.fz_r, Z.fzR_l, Z.fzR_f, Z.r_T, Z.t_o, Z.tL_b, Z.r_not, Z.nt_o, Z.r_and, Z.r_or, Z.an_t, Z.an_f, Z.or_t, Z.or_f, Z.r_seq, Z.sq_n, Z.sq_r, Z.sq_b, Z.sq_c, Z.r_drop, Z.dr_o, Z.r_ret, Z.rt_o, Z.r_retN, Z.r_if, Z.if_o, Z.if_t', Z.if_f', Z.r_skip, Z.r_bk, Z.r_ct, Z.r_set, Z.st_o, Z.r_asg, Z.as_o, Z.as_p, Z.g_nm, Z.g_tp, Z.g_nil, Z.g_cons, Z.gc_o, Z.r_par, Z.pr_o, Z.pr_p, Z.sA_nil, Z.sA_cons, Z.r_fnM, Z.fn_n, Z.fn_d, Z.fn_r, Z.fr_l, Z.fr_f, Z.fr_i, Z.r_call, Z.cl_o, Z.r_callV, Z.cv_s, Z.in_r, Z.in_s, Z.r_fld, Z.fd_o, Z.fd_p, Z.fd_q, Z.r_setF, Z.sf_o, Z.sf_p, Z.sf_q, Z.r_meth, Z.mt_o, Z.mt_p, Z.mt_q, Z.r_make, Z.mk_o, Z.mk_p, Z.r_mt, Z.mm_o, Z.mm_p, Z.mm_q, Z.mm_r, Z.mm_s, Z.f_app, Z.f_ext, Z.ex_s, Z.f_popAt, Z.r_setIx, Z.si_o, Z.si_p, Z.si_q, Z.si_r, Z.sl_s, Z.r_augIx, Z.ai_o, Z.ai_p, Z.ai_q, Z.ai_r, Z.ai_s, Z.r_getL, Z.gl_s, Z.ip_add, Z.ip_sub, Z.r_aug, Z.ag_o, Z.ag_p, Z.ag_q, Z.r_ifE, Z.i_t, Z.i_f, Z.i_o, Z.r_andV, Z.av_o, Z.av_t, Z.av_f, Z.onB_K, Z.oBK_s, Z.r_chain, Z.ch_a, Z.ch_b, Z.ch_t, Z.ch_f, Z.ch_d, Z.ch_e, Z.r_chain3, Z.c3_a, Z.c3_b, Z.c3_t, Z.c3_f, Z.c3_d, Z.r_sl, Z.sl_a, Z.sl_b, Z.sl_c, Z.pt_n, Z.pt_s, Z.pt_o, Z.pt_i, Z.gs_d, Z.gs_r, Z.gs_s, Z.gSl_l, Z.gSl_t, Z.r_it, Z.it_l, Z.it_t, Z.r_enum, Z.en_l, Z.en_t, Z.r_rng1, Z.r_rng2, Z.r1_o, Z.r2_o, Z.r_for, Z.fo_o, Z.bd_o, Z.for_nil, Z.fl_n, Z.fl_c, Z.fl_b, Z.fl_r, Z.wc_t, Z.wc_f, Z.wb_n, Z.wb_r, Z.lc_nil, Z.lc_z, Z.lc_t, Z.lc_f, Z.lc_b, Z.lc_c, Z.r_lc, Z.lm_o, Z.lm_p, Z.gAdd_ii, Z.gAdd_ll, Z.gAdd_tt, Z.gSub_ii, Z.gMul_ii, Z.gDiv_ii, Z.gMod_ii, Z.gPow_ii, Z.gNeg_i, Z.bV_s, Z.gIx_l, Z.gIx_t, Z.gLen_l, Z.gLen_t, Z.gTup_l, Z.gTup_t, Z.gLst_l, Z.gLst_t, Z.gInt_i, Z.gInt_b, Z.gAbs_i, Z.gNot_b, Z.gZip_tt, Z.gZip_ll, Z.gAll_l, Z.gAny_l, Z.gSum_l, Z.gLRg1, Z.atI_0, Z.atI_1, Z.atI_2, Z.atI_3, Z.gS0, Z.gSj, Z.tS0, Z.tSj, Z.sS0, Z.sSj, Z.tSe, Z.r_lc2, Z.l2_o, Z.tL_l, Z.tL_t, Z.tL_i, Z.blsOf_true, Z.all_true, gEq_ii, gNe_ii, gEq_bb, gNe_bb, gLt_ii, gLe_ii, gGt_ii, gGe_ii, sub_sub_drop, HT.sIx_none, take_self, take_set, len_set, set_set, r_setL, putD, ixN]
    rfl

theorem drawn_visits_ok {S : Sto} {seed many lg : Int} (h0 : 0 ≤ many) (h1 : many ≤ 1000000) (hl : 0 < lg) : p_drawn_visits [.d (.int seed), .d (.int many), .d (.int lg)] S = .ok (.d (.tuple (spans many.toNat lg seed))) S := by
  unfold p_drawn_visits
  simp [m_drawn_visits, Z.r_var, Z.r_varK, Z.r_C, Z.r_fn, Z.r_yes, Z.rd_d, Z.rd_r, Z.rdK_l, Z.rdK_f, Z.r_on1, Z.r_on2, Z.o1_s, Z.o2_s, Z.r_outN, Z.oK_v, Z.oK_l, Z.r_m1, Z.m1_o, Z.r_m2, Z.m2_o, Z.m2_p, Z.r_mB, Z.mB_o, Z.r_nil, Z.r_cons, Z.cn_o, Z.cn_p, Z.a1_s, Z.a2_s, Z.pu_nil, Z.pu_cons, Z.puK_s, Z.r_tup, Z.r_lst, Z.tp_s, Z.lt_s, Z.okLen_if, Z.r_fz, Z.fz_d, Z.fz_f, Z.fz_s, Z.fz_r, Z.fzR_l, Z.fzR_f, Z.r_T, Z.t_o, Z.tL_b, Z.r_not, Z.nt_o, Z.r_and, Z.r_or, Z.an_t, Z.an_f, Z.or_t, Z.or_f, Z.r_seq, Z.sq_n, Z.sq_r, Z.sq_b, Z.sq_c, Z.r_drop, Z.dr_o, Z.r_ret, Z.rt_o, Z.r_retN, Z.r_if, Z.if_o, Z.if_t', Z.if_f', Z.r_skip, Z.r_bk, Z.r_ct, Z.r_set, Z.st_o, Z.r_asg, Z.as_o, Z.as_p, Z.g_nm, Z.g_tp, Z.g_nil, Z.g_cons, Z.gc_o, Z.r_par, Z.pr_o, Z.pr_p, Z.sA_nil, Z.sA_cons, Z.r_fnM, Z.fn_n, Z.fn_d, Z.fn_r, Z.fr_l, Z.fr_f, Z.fr_i, Z.r_call, Z.cl_o, Z.r_callV, Z.cv_s, Z.in_r, Z.in_s, Z.r_fld, Z.fd_o, Z.fd_p, Z.fd_q, Z.r_setF, Z.sf_o, Z.sf_p, Z.sf_q, Z.r_meth, Z.mt_o, Z.mt_p, Z.mt_q, Z.r_make, Z.mk_o, Z.mk_p, Z.r_mt, Z.mm_o, Z.mm_p, Z.mm_q, Z.mm_r, Z.mm_s, Z.f_app, Z.f_ext, Z.ex_s, Z.f_popAt, Z.r_setIx, Z.si_o, Z.si_p, Z.si_q, Z.si_r, Z.sl_s, Z.r_augIx, Z.ai_o, Z.ai_p, Z.ai_q, Z.ai_r, Z.ai_s, Z.r_getL, Z.gl_s, Z.ip_add, Z.ip_sub, Z.r_aug, Z.ag_o, Z.ag_p, Z.ag_q, Z.r_ifE, Z.i_t, Z.i_f, Z.i_o, Z.r_andV, Z.av_o, Z.av_t, Z.av_f, Z.onB_K, Z.oBK_s, Z.r_chain, Z.ch_a, Z.ch_b, Z.ch_t, Z.ch_f, Z.ch_d, Z.ch_e, Z.r_chain3, Z.c3_a, Z.c3_b, Z.c3_t, Z.c3_f, Z.c3_d, Z.r_sl, Z.sl_a, Z.sl_b, Z.sl_c, Z.pt_n, Z.pt_s, Z.pt_o, Z.pt_i, Z.gs_d, Z.gs_r, Z.gs_s, Z.gSl_l, Z.gSl_t, Z.r_it, Z.it_l, Z.it_t, Z.r_enum, Z.en_l, Z.en_t, Z.r_rng1, Z.r_rng2, Z.r1_o, Z.r2_o, Z.r_for, Z.fo_o, Z.bd_o, Z.for_nil, Z.fl_n, Z.fl_c, Z.fl_b, Z.fl_r, Z.wc_t, Z.wc_f, Z.wb_n, Z.wb_r, Z.lc_nil, Z.lc_z, Z.lc_t, Z.lc_f, Z.lc_b, Z.lc_c, Z.r_lc, Z.lm_o, Z.lm_p, Z.gAdd_ii, Z.gAdd_ll, Z.gAdd_tt, Z.gSub_ii, Z.gMul_ii, Z.gDiv_ii, Z.gMod_ii, Z.gPow_ii, Z.gNeg_i, Z.bV_s, Z.gIx_l, Z.gIx_t, Z.gLen_l, Z.gLen_t, Z.gTup_l, Z.gTup_t, Z.gLst_l, Z.gLst_t, Z.gInt_i, Z.gInt_b, Z.gAbs_i, Z.gNot_b, Z.gZip_tt, Z.gZip_ll, Z.gAll_l, Z.gAny_l, Z.gSum_l, Z.gLRg1, Z.atI_0, Z.atI_1, Z.atI_2, Z.atI_3, Z.gS0, Z.gSj, Z.tS0, Z.tSj, Z.sS0, Z.sSj, Z.tSe, Z.r_lc2, Z.l2_o, Z.tL_l, Z.tL_t, Z.tL_i, Z.blsOf_true, Z.all_true, gEq_ii, gNe_ii, gEq_bb, gNe_bb, gLt_ii, gLe_ii, gGt_ii, gGe_ii, sub_sub_drop, HT.sIx_none, take_self, take_set, len_set, set_set, r_setL, putD, ixN, drawn_spans_ok h0 h1 hl]
theorem drawn_shifts_ok {S : Sto} {seed many : Int} (h0 : 0 ≤ many) (h1 : many ≤ 1000000) : p_drawn_shifts [.d (.int seed), .d (.int many)] S = .ok (.d (.tuple (spans many.toNat 30 seed))) S := by
  unfold p_drawn_shifts
  simp [m_drawn_shifts, Z.r_var, Z.r_varK, Z.r_C, Z.r_fn, Z.r_yes, Z.rd_d, Z.rd_r, Z.rdK_l, Z.rdK_f, Z.r_on1, Z.r_on2, Z.o1_s, Z.o2_s, Z.r_outN, Z.oK_v, Z.oK_l, Z.r_m1, Z.m1_o, Z.r_m2, Z.m2_o, Z.m2_p, Z.r_mB, Z.mB_o, Z.r_nil, Z.r_cons, Z.cn_o, Z.cn_p, Z.a1_s, Z.a2_s, Z.pu_nil, Z.pu_cons, Z.puK_s, Z.r_tup, Z.r_lst, Z.tp_s, Z.lt_s, Z.okLen_if, Z.r_fz, Z.fz_d, Z.fz_f, Z.fz_s, Z.fz_r, Z.fzR_l, Z.fzR_f, Z.r_T, Z.t_o, Z.tL_b, Z.r_not, Z.nt_o, Z.r_and, Z.r_or, Z.an_t, Z.an_f, Z.or_t, Z.or_f, Z.r_seq, Z.sq_n, Z.sq_r, Z.sq_b, Z.sq_c, Z.r_drop, Z.dr_o, Z.r_ret, Z.rt_o, Z.r_retN, Z.r_if, Z.if_o, Z.if_t', Z.if_f', Z.r_skip, Z.r_bk, Z.r_ct, Z.r_set, Z.st_o, Z.r_asg, Z.as_o, Z.as_p, Z.g_nm, Z.g_tp, Z.g_nil, Z.g_cons, Z.gc_o, Z.r_par, Z.pr_o, Z.pr_p, Z.sA_nil, Z.sA_cons, Z.r_fnM, Z.fn_n, Z.fn_d, Z.fn_r, Z.fr_l, Z.fr_f, Z.fr_i, Z.r_call, Z.cl_o, Z.r_callV, Z.cv_s, Z.in_r, Z.in_s, Z.r_fld, Z.fd_o, Z.fd_p, Z.fd_q, Z.r_setF, Z.sf_o, Z.sf_p, Z.sf_q, Z.r_meth, Z.mt_o, Z.mt_p, Z.mt_q, Z.r_make, Z.mk_o, Z.mk_p, Z.r_mt, Z.mm_o, Z.mm_p, Z.mm_q, Z.mm_r, Z.mm_s, Z.f_app, Z.f_ext, Z.ex_s, Z.f_popAt, Z.r_setIx, Z.si_o, Z.si_p, Z.si_q, Z.si_r, Z.sl_s, Z.r_augIx, Z.ai_o, Z.ai_p, Z.ai_q, Z.ai_r, Z.ai_s, Z.r_getL, Z.gl_s, Z.ip_add, Z.ip_sub, Z.r_aug, Z.ag_o, Z.ag_p, Z.ag_q, Z.r_ifE, Z.i_t, Z.i_f, Z.i_o, Z.r_andV, Z.av_o, Z.av_t, Z.av_f, Z.onB_K, Z.oBK_s, Z.r_chain, Z.ch_a, Z.ch_b, Z.ch_t, Z.ch_f, Z.ch_d, Z.ch_e, Z.r_chain3, Z.c3_a, Z.c3_b, Z.c3_t, Z.c3_f, Z.c3_d, Z.r_sl, Z.sl_a, Z.sl_b, Z.sl_c, Z.pt_n, Z.pt_s, Z.pt_o, Z.pt_i, Z.gs_d, Z.gs_r, Z.gs_s, Z.gSl_l, Z.gSl_t, Z.r_it, Z.it_l, Z.it_t, Z.r_enum, Z.en_l, Z.en_t, Z.r_rng1, Z.r_rng2, Z.r1_o, Z.r2_o, Z.r_for, Z.fo_o, Z.bd_o, Z.for_nil, Z.fl_n, Z.fl_c, Z.fl_b, Z.fl_r, Z.wc_t, Z.wc_f, Z.wb_n, Z.wb_r, Z.lc_nil, Z.lc_z, Z.lc_t, Z.lc_f, Z.lc_b, Z.lc_c, Z.r_lc, Z.lm_o, Z.lm_p, Z.gAdd_ii, Z.gAdd_ll, Z.gAdd_tt, Z.gSub_ii, Z.gMul_ii, Z.gDiv_ii, Z.gMod_ii, Z.gPow_ii, Z.gNeg_i, Z.bV_s, Z.gIx_l, Z.gIx_t, Z.gLen_l, Z.gLen_t, Z.gTup_l, Z.gTup_t, Z.gLst_l, Z.gLst_t, Z.gInt_i, Z.gInt_b, Z.gAbs_i, Z.gNot_b, Z.gZip_tt, Z.gZip_ll, Z.gAll_l, Z.gAny_l, Z.gSum_l, Z.gLRg1, Z.atI_0, Z.atI_1, Z.atI_2, Z.atI_3, Z.gS0, Z.gSj, Z.tS0, Z.tSj, Z.sS0, Z.sSj, Z.tSe, Z.r_lc2, Z.l2_o, Z.tL_l, Z.tL_t, Z.tL_i, Z.blsOf_true, Z.all_true, gEq_ii, gNe_ii, gEq_bb, gNe_bb, gLt_ii, gLe_ii, gGt_ii, gGe_ii, sub_sub_drop, HT.sIx_none, take_self, take_set, len_set, set_set, r_setL, putD, ixN, drawn_spans_ok h0 h1]
theorem own_visits_ok {S : Sto} {seed many lg : Int} (h0 : 0 ≤ many) (h1 : many ≤ 1000000) (hl : 0 < lg) : p__law_own_visits [.d (.int seed), .d (.int many), .d (.int lg)] S = .ok (.d (.tuple (spans many.toNat lg seed))) S := by
  unfold p__law_own_visits
  simp [m__law_own_visits, Z.r_var, Z.r_varK, Z.r_C, Z.r_fn, Z.r_yes, Z.rd_d, Z.rd_r, Z.rdK_l, Z.rdK_f, Z.r_on1, Z.r_on2, Z.o1_s, Z.o2_s, Z.r_outN, Z.oK_v, Z.oK_l, Z.r_m1, Z.m1_o, Z.r_m2, Z.m2_o, Z.m2_p, Z.r_mB, Z.mB_o, Z.r_nil, Z.r_cons, Z.cn_o, Z.cn_p, Z.a1_s, Z.a2_s, Z.pu_nil, Z.pu_cons, Z.puK_s, Z.r_tup, Z.r_lst, Z.tp_s, Z.lt_s, Z.okLen_if, Z.r_fz, Z.fz_d, Z.fz_f, Z.fz_s, Z.fz_r, Z.fzR_l, Z.fzR_f, Z.r_T, Z.t_o, Z.tL_b, Z.r_not, Z.nt_o, Z.r_and, Z.r_or, Z.an_t, Z.an_f, Z.or_t, Z.or_f, Z.r_seq, Z.sq_n, Z.sq_r, Z.sq_b, Z.sq_c, Z.r_drop, Z.dr_o, Z.r_ret, Z.rt_o, Z.r_retN, Z.r_if, Z.if_o, Z.if_t', Z.if_f', Z.r_skip, Z.r_bk, Z.r_ct, Z.r_set, Z.st_o, Z.r_asg, Z.as_o, Z.as_p, Z.g_nm, Z.g_tp, Z.g_nil, Z.g_cons, Z.gc_o, Z.r_par, Z.pr_o, Z.pr_p, Z.sA_nil, Z.sA_cons, Z.r_fnM, Z.fn_n, Z.fn_d, Z.fn_r, Z.fr_l, Z.fr_f, Z.fr_i, Z.r_call, Z.cl_o, Z.r_callV, Z.cv_s, Z.in_r, Z.in_s, Z.r_fld, Z.fd_o, Z.fd_p, Z.fd_q, Z.r_setF, Z.sf_o, Z.sf_p, Z.sf_q, Z.r_meth, Z.mt_o, Z.mt_p, Z.mt_q, Z.r_make, Z.mk_o, Z.mk_p, Z.r_mt, Z.mm_o, Z.mm_p, Z.mm_q, Z.mm_r, Z.mm_s, Z.f_app, Z.f_ext, Z.ex_s, Z.f_popAt, Z.r_setIx, Z.si_o, Z.si_p, Z.si_q, Z.si_r, Z.sl_s, Z.r_augIx, Z.ai_o, Z.ai_p, Z.ai_q, Z.ai_r, Z.ai_s, Z.r_getL, Z.gl_s, Z.ip_add, Z.ip_sub, Z.r_aug, Z.ag_o, Z.ag_p, Z.ag_q, Z.r_ifE, Z.i_t, Z.i_f, Z.i_o, Z.r_andV, Z.av_o, Z.av_t, Z.av_f, Z.onB_K, Z.oBK_s, Z.r_chain, Z.ch_a, Z.ch_b, Z.ch_t, Z.ch_f, Z.ch_d, Z.ch_e, Z.r_chain3, Z.c3_a, Z.c3_b, Z.c3_t, Z.c3_f, Z.c3_d, Z.r_sl, Z.sl_a, Z.sl_b, Z.sl_c, Z.pt_n, Z.pt_s, Z.pt_o, Z.pt_i, Z.gs_d, Z.gs_r, Z.gs_s, Z.gSl_l, Z.gSl_t, Z.r_it, Z.it_l, Z.it_t, Z.r_enum, Z.en_l, Z.en_t, Z.r_rng1, Z.r_rng2, Z.r1_o, Z.r2_o, Z.r_for, Z.fo_o, Z.bd_o, Z.for_nil, Z.fl_n, Z.fl_c, Z.fl_b, Z.fl_r, Z.wc_t, Z.wc_f, Z.wb_n, Z.wb_r, Z.lc_nil, Z.lc_z, Z.lc_t, Z.lc_f, Z.lc_b, Z.lc_c, Z.r_lc, Z.lm_o, Z.lm_p, Z.gAdd_ii, Z.gAdd_ll, Z.gAdd_tt, Z.gSub_ii, Z.gMul_ii, Z.gDiv_ii, Z.gMod_ii, Z.gPow_ii, Z.gNeg_i, Z.bV_s, Z.gIx_l, Z.gIx_t, Z.gLen_l, Z.gLen_t, Z.gTup_l, Z.gTup_t, Z.gLst_l, Z.gLst_t, Z.gInt_i, Z.gInt_b, Z.gAbs_i, Z.gNot_b, Z.gZip_tt, Z.gZip_ll, Z.gAll_l, Z.gAny_l, Z.gSum_l, Z.gLRg1, Z.atI_0, Z.atI_1, Z.atI_2, Z.atI_3, Z.gS0, Z.gSj, Z.tS0, Z.tSj, Z.sS0, Z.sSj, Z.tSe, Z.r_lc2, Z.l2_o, Z.tL_l, Z.tL_t, Z.tL_i, Z.blsOf_true, Z.all_true, gEq_ii, gNe_ii, gEq_bb, gNe_bb, gLt_ii, gLe_ii, gGt_ii, gGe_ii, sub_sub_drop, HT.sIx_none, take_self, take_set, len_set, set_set, r_setL, putD, ixN, law_begun_ok, sm62 (show -1000000000 ≤ many by omega) (by omega)]
  refine for_then (fun o => fnK S.length (sqK _ o)) (fun r s E S' => ∃ a b, E = [some (.d (.int seed)), some (.d (.int many)), some (.d (.int lg)), some (.r S.length), some (.r (S.length + 1)), a, b] ∧ S' = S ++ [OwO s.1, .lst s.2] ∧ 0 ≤ s.1 ∧ s.1 < 2147483647 ∧ s.2.length + r ≤ 1000000)
    (spanS lg) (seed % 2147483647, []) ?_ ?_ ?_
  · exact ⟨none, none, rfl, rfl, (emod_rng _ (by omega)).1, (emod_rng _ (by omega)).2, by rw [rgD_len]; simp; omega⟩
  · rintro r ⟨z, f⟩ d E S' hd ⟨a, b, rfl, rfl, z0, z1, hr⟩
    dsimp only at *
    have q1 := nxt_lo z
    have q2 := nxt_hi z
    refine ⟨[some (.d (.int seed)), some (.d (.int many)), some (.d (.int lg)), some (.r S.length), some (.r (S.length + 1)), some (.d d), some (.d (.int (dr (nxt z) 100)))], S ++ [OwO (nxt (nxt z)), .lst (spanS lg (z, f) d).2], .inl ?_, ?_⟩
    · have hf : f.length < 16777216 := by omega
      simp [Z.r_var, Z.r_varK, Z.r_C, Z.r_fn, Z.r_yes, Z.rd_d, Z.rd_r, Z.rdK_l, Z.rdK_f, Z.r_on1, Z.r_on2, Z.o1_s, Z.o2_s, Z.r_outN, Z.oK_v, Z.oK_l, Z.r_m1, Z.m1_o, Z.r_m2, Z.m2_o, Z.m2_p, Z.r_mB, Z.mB_o, Z.r_nil, Z.r_cons, Z.cn_o, Z.cn_p, Z.a1_s, Z.a2_s, Z.pu_nil, Z.pu_cons, Z.puK_s, Z.r_tup, Z.r_lst, Z.tp_s, Z.lt_s, Z.okLen_if, Z.r_fz, Z.fz_d, Z.fz_f, Z.fz_s, Z.fz_r, Z.fzR_l, Z.fzR_f, Z.r_T, Z.t_o, Z.tL_b, Z.r_not, Z.nt_o, Z.r_and, Z.r_or, Z.an_t, Z.an_f, Z.or_t, Z.or_f, Z.r_seq, Z.sq_n, Z.sq_r, Z.sq_b, Z.sq_c, Z.r_drop, Z.dr_o, Z.r_ret, Z.rt_o, Z.r_retN, Z.r_if, Z.if_o, Z.if_t', Z.if_f', Z.r_skip, Z.r_bk, Z.r_ct, Z.r_set, Z.st_o, Z.r_asg, Z.as_o, Z.as_p, Z.g_nm, Z.g_tp, Z.g_nil, Z.g_cons, Z.gc_o, Z.r_par, Z.pr_o, Z.pr_p, Z.sA_nil, Z.sA_cons, Z.r_fnM, Z.fn_n, Z.fn_d, Z.fn_r, Z.fr_l, Z.fr_f, Z.fr_i, Z.r_call, Z.cl_o, Z.r_callV, Z.cv_s, Z.in_r, Z.in_s, Z.r_fld, Z.fd_o, Z.fd_p, Z.fd_q, Z.r_setF, Z.sf_o, Z.sf_p, Z.sf_q, Z.r_meth, Z.mt_o, Z.mt_p, Z.mt_q, Z.r_make, Z.mk_o, Z.mk_p, Z.r_mt, Z.mm_o, Z.mm_p, Z.mm_q, Z.mm_r, Z.mm_s, Z.f_app, Z.f_ext, Z.ex_s, Z.f_popAt, Z.r_setIx, Z.si_o, Z.si_p, Z.si_q, Z.si_r, Z.sl_s, Z.r_augIx, Z.ai_o, Z.ai_p, Z.ai_q, Z.ai_r, Z.ai_s, Z.r_getL, Z.gl_s, Z.ip_add, Z.ip_sub, Z.r_aug, Z.ag_o, Z.ag_p, Z.ag_q, Z.r_ifE, Z.i_t, Z.i_f, Z.i_o, Z.r_andV, Z.av_o, Z.av_t, Z.av_f, Z.onB_K, Z.oBK_s, Z.r_chain, Z.ch_a, Z.ch_b, Z.ch_t, Z.ch_f, Z.ch_d, Z.ch_e, Z.r_chain3, Z.c3_a, Z.c3_b, Z.c3_t, Z.c3_f, Z.c3_d, Z.r_sl, Z.sl_a, Z.sl_b, Z.sl_c, Z.pt_n, Z.pt_s, Z.pt_o, Z.pt_i, Z.gs_d, Z.gs_r, Z.gs_s, Z.gSl_l, Z.gSl_t, Z.r_it, Z.it_l, Z.it_t, Z.r_enum, Z.en_l, Z.en_t, Z.r_rng1, Z.r_rng2, Z.r1_o, Z.r2_o, Z.r_for, Z.fo_o, Z.bd_o, Z.for_nil, Z.fl_n, Z.fl_c, Z.fl_b, Z.fl_r, Z.wc_t, Z.wc_f, Z.wb_n, Z.wb_r, Z.lc_nil, Z.lc_z, Z.lc_t, Z.lc_f, Z.lc_b, Z.lc_c, Z.r_lc, Z.lm_o, Z.lm_p, Z.gAdd_ii, Z.gAdd_ll, Z.gAdd_tt, Z.gSub_ii, Z.gMul_ii, Z.gDiv_ii, Z.gMod_ii, Z.gPow_ii, Z.gNeg_i, Z.bV_s, Z.gIx_l, Z.gIx_t, Z.gLen_l, Z.gLen_t, Z.gTup_l, Z.gTup_t, Z.gLst_l, Z.gLst_t, Z.gInt_i, Z.gInt_b, Z.gAbs_i, Z.gNot_b, Z.gZip_tt, Z.gZip_ll, Z.gAll_l, Z.gAny_l, Z.gSum_l, Z.gLRg1, Z.atI_0, Z.atI_1, Z.atI_2, Z.atI_3, Z.gS0, Z.gSj, Z.tS0, Z.tSj, Z.sS0, Z.sSj, Z.tSe, Z.r_lc2, Z.l2_o, Z.tL_l, Z.tL_t, Z.tL_i, Z.blsOf_true, Z.all_true, gEq_ii, gNe_ii, gEq_bb, gNe_bb, gLt_ii, gLe_ii, gGt_ii, gGe_ii, sub_sub_drop, HT.sIx_none, take_self, take_set, len_set, set_set, r_setL, putD, ixN, ld0 z0 z1, ld0 q1 q2, hl, hf, spanS]
    · exact ⟨_, _, rfl, rfl, nxt_lo _, nxt_hi _, by simp [spanS]; omega⟩
  · rintro E' S' ⟨a, b, rfl, rfl, _, _, _⟩
    simp [Z.r_var, Z.r_varK, Z.r_C, Z.r_fn, Z.r_yes, Z.rd_d, Z.rd_r, Z.rdK_l, Z.rdK_f, Z.r_on1, Z.r_on2, Z.o1_s, Z.o2_s, Z.r_outN, Z.oK_v, Z.oK_l, Z.r_m1, Z.m1_o, Z.r_m2, Z.m2_o, Z.m2_p, Z.r_mB, Z.mB_o, Z.r_nil, Z.r_cons, Z.cn_o, Z.cn_p, Z.a1_s, Z.a2_s, Z.pu_nil, Z.pu_cons, Z.puK_s, Z.r_tup, Z.r_lst, Z.tp_s, Z.lt_s, Z.okLen_if, Z.r_fz, Z.fz_d, Z.fz_f, Z.fz_s, Z.fz_r, Z.fzR_l, Z.fzR_f, Z.r_T, Z.t_o, Z.tL_b, Z.r_not, Z.nt_o, Z.r_and, Z.r_or, Z.an_t, Z.an_f, Z.or_t, Z.or_f, Z.r_seq, Z.sq_n, Z.sq_r, Z.sq_b, Z.sq_c, Z.r_drop, Z.dr_o, Z.r_ret, Z.rt_o, Z.r_retN, Z.r_if, Z.if_o, Z.if_t', Z.if_f', Z.r_skip, Z.r_bk, Z.r_ct, Z.r_set, Z.st_o, Z.r_asg, Z.as_o, Z.as_p, Z.g_nm, Z.g_tp, Z.g_nil, Z.g_cons, Z.gc_o, Z.r_par, Z.pr_o, Z.pr_p, Z.sA_nil, Z.sA_cons, Z.r_fnM, Z.fn_n, Z.fn_d, Z.fn_r, Z.fr_l, Z.fr_f, Z.fr_i, Z.r_call, Z.cl_o, Z.r_callV, Z.cv_s, Z.in_r, Z.in_s, Z.r_fld, Z.fd_o, Z.fd_p, Z.fd_q, Z.r_setF, Z.sf_o, Z.sf_p, Z.sf_q, Z.r_meth, Z.mt_o, Z.mt_p, Z.mt_q, Z.r_make, Z.mk_o, Z.mk_p, Z.r_mt, Z.mm_o, Z.mm_p, Z.mm_q, Z.mm_r, Z.mm_s, Z.f_app, Z.f_ext, Z.ex_s, Z.f_popAt, Z.r_setIx, Z.si_o, Z.si_p, Z.si_q, Z.si_r, Z.sl_s, Z.r_augIx, Z.ai_o, Z.ai_p, Z.ai_q, Z.ai_r, Z.ai_s, Z.r_getL, Z.gl_s, Z.ip_add, Z.ip_sub, Z.r_aug, Z.ag_o, Z.ag_p, Z.ag_q, Z.r_ifE, Z.i_t, Z.i_f, Z.i_o, Z.r_andV, Z.av_o, Z.av_t, Z.av_f, Z.onB_K, Z.oBK_s, Z.r_chain, Z.ch_a, Z.ch_b, Z.ch_t, Z.ch_f, Z.ch_d, Z.ch_e, Z.r_chain3, Z.c3_a, Z.c3_b, Z.c3_t, Z.c3_f, Z.c3_d, Z.r_sl, Z.sl_a, Z.sl_b, Z.sl_c, Z.pt_n, Z.pt_s, Z.pt_o, Z.pt_i, Z.gs_d, Z.gs_r, Z.gs_s, Z.gSl_l, Z.gSl_t, Z.r_it, Z.it_l, Z.it_t, Z.r_enum, Z.en_l, Z.en_t, Z.r_rng1, Z.r_rng2, Z.r1_o, Z.r2_o, Z.r_for, Z.fo_o, Z.bd_o, Z.for_nil, Z.fl_n, Z.fl_c, Z.fl_b, Z.fl_r, Z.wc_t, Z.wc_f, Z.wb_n, Z.wb_r, Z.lc_nil, Z.lc_z, Z.lc_t, Z.lc_f, Z.lc_b, Z.lc_c, Z.r_lc, Z.lm_o, Z.lm_p, Z.gAdd_ii, Z.gAdd_ll, Z.gAdd_tt, Z.gSub_ii, Z.gMul_ii, Z.gDiv_ii, Z.gMod_ii, Z.gPow_ii, Z.gNeg_i, Z.bV_s, Z.gIx_l, Z.gIx_t, Z.gLen_l, Z.gLen_t, Z.gTup_l, Z.gTup_t, Z.gLst_l, Z.gLst_t, Z.gInt_i, Z.gInt_b, Z.gAbs_i, Z.gNot_b, Z.gZip_tt, Z.gZip_ll, Z.gAll_l, Z.gAny_l, Z.gSum_l, Z.gLRg1, Z.atI_0, Z.atI_1, Z.atI_2, Z.atI_3, Z.gS0, Z.gSj, Z.tS0, Z.tSj, Z.sS0, Z.sSj, Z.tSe, Z.r_lc2, Z.l2_o, Z.tL_l, Z.tL_t, Z.tL_i, Z.blsOf_true, Z.all_true, gEq_ii, gNe_ii, gEq_bb, gNe_bb, gLt_ii, gLe_ii, gGt_ii, gGe_ii, sub_sub_drop, HT.sIx_none, take_self, take_set, len_set, set_set, r_setL, putD, ixN]
    rfl
theorem own_shifts_ok {S : Sto} {seed many : Int} (h0 : 0 ≤ many) (h1 : many ≤ 1000000) : p__law_own_shifts [.d (.int seed), .d (.int many)] S = .ok (.d (.tuple (spans many.toNat 30 seed))) S := by
  unfold p__law_own_shifts
  simp [m__law_own_shifts, Z.r_var, Z.r_varK, Z.r_C, Z.r_fn, Z.r_yes, Z.rd_d, Z.rd_r, Z.rdK_l, Z.rdK_f, Z.r_on1, Z.r_on2, Z.o1_s, Z.o2_s, Z.r_outN, Z.oK_v, Z.oK_l, Z.r_m1, Z.m1_o, Z.r_m2, Z.m2_o, Z.m2_p, Z.r_mB, Z.mB_o, Z.r_nil, Z.r_cons, Z.cn_o, Z.cn_p, Z.a1_s, Z.a2_s, Z.pu_nil, Z.pu_cons, Z.puK_s, Z.r_tup, Z.r_lst, Z.tp_s, Z.lt_s, Z.okLen_if, Z.r_fz, Z.fz_d, Z.fz_f, Z.fz_s, Z.fz_r, Z.fzR_l, Z.fzR_f, Z.r_T, Z.t_o, Z.tL_b, Z.r_not, Z.nt_o, Z.r_and, Z.r_or, Z.an_t, Z.an_f, Z.or_t, Z.or_f, Z.r_seq, Z.sq_n, Z.sq_r, Z.sq_b, Z.sq_c, Z.r_drop, Z.dr_o, Z.r_ret, Z.rt_o, Z.r_retN, Z.r_if, Z.if_o, Z.if_t', Z.if_f', Z.r_skip, Z.r_bk, Z.r_ct, Z.r_set, Z.st_o, Z.r_asg, Z.as_o, Z.as_p, Z.g_nm, Z.g_tp, Z.g_nil, Z.g_cons, Z.gc_o, Z.r_par, Z.pr_o, Z.pr_p, Z.sA_nil, Z.sA_cons, Z.r_fnM, Z.fn_n, Z.fn_d, Z.fn_r, Z.fr_l, Z.fr_f, Z.fr_i, Z.r_call, Z.cl_o, Z.r_callV, Z.cv_s, Z.in_r, Z.in_s, Z.r_fld, Z.fd_o, Z.fd_p, Z.fd_q, Z.r_setF, Z.sf_o, Z.sf_p, Z.sf_q, Z.r_meth, Z.mt_o, Z.mt_p, Z.mt_q, Z.r_make, Z.mk_o, Z.mk_p, Z.r_mt, Z.mm_o, Z.mm_p, Z.mm_q, Z.mm_r, Z.mm_s, Z.f_app, Z.f_ext, Z.ex_s, Z.f_popAt, Z.r_setIx, Z.si_o, Z.si_p, Z.si_q, Z.si_r, Z.sl_s, Z.r_augIx, Z.ai_o, Z.ai_p, Z.ai_q, Z.ai_r, Z.ai_s, Z.r_getL, Z.gl_s, Z.ip_add, Z.ip_sub, Z.r_aug, Z.ag_o, Z.ag_p, Z.ag_q, Z.r_ifE, Z.i_t, Z.i_f, Z.i_o, Z.r_andV, Z.av_o, Z.av_t, Z.av_f, Z.onB_K, Z.oBK_s, Z.r_chain, Z.ch_a, Z.ch_b, Z.ch_t, Z.ch_f, Z.ch_d, Z.ch_e, Z.r_chain3, Z.c3_a, Z.c3_b, Z.c3_t, Z.c3_f, Z.c3_d, Z.r_sl, Z.sl_a, Z.sl_b, Z.sl_c, Z.pt_n, Z.pt_s, Z.pt_o, Z.pt_i, Z.gs_d, Z.gs_r, Z.gs_s, Z.gSl_l, Z.gSl_t, Z.r_it, Z.it_l, Z.it_t, Z.r_enum, Z.en_l, Z.en_t, Z.r_rng1, Z.r_rng2, Z.r1_o, Z.r2_o, Z.r_for, Z.fo_o, Z.bd_o, Z.for_nil, Z.fl_n, Z.fl_c, Z.fl_b, Z.fl_r, Z.wc_t, Z.wc_f, Z.wb_n, Z.wb_r, Z.lc_nil, Z.lc_z, Z.lc_t, Z.lc_f, Z.lc_b, Z.lc_c, Z.r_lc, Z.lm_o, Z.lm_p, Z.gAdd_ii, Z.gAdd_ll, Z.gAdd_tt, Z.gSub_ii, Z.gMul_ii, Z.gDiv_ii, Z.gMod_ii, Z.gPow_ii, Z.gNeg_i, Z.bV_s, Z.gIx_l, Z.gIx_t, Z.gLen_l, Z.gLen_t, Z.gTup_l, Z.gTup_t, Z.gLst_l, Z.gLst_t, Z.gInt_i, Z.gInt_b, Z.gAbs_i, Z.gNot_b, Z.gZip_tt, Z.gZip_ll, Z.gAll_l, Z.gAny_l, Z.gSum_l, Z.gLRg1, Z.atI_0, Z.atI_1, Z.atI_2, Z.atI_3, Z.gS0, Z.gSj, Z.tS0, Z.tSj, Z.sS0, Z.sSj, Z.tSe, Z.r_lc2, Z.l2_o, Z.tL_l, Z.tL_t, Z.tL_i, Z.blsOf_true, Z.all_true, gEq_ii, gNe_ii, gEq_bb, gNe_bb, gLt_ii, gLe_ii, gGt_ii, gGe_ii, sub_sub_drop, HT.sIx_none, take_self, take_set, len_set, set_set, r_setL, putD, ixN, law_begun_ok, sm62 (show -1000000000 ≤ many by omega) (by omega)]
  refine for_then (fun o => fnK S.length (sqK _ o)) (fun r s E S' => ∃ a b, E = [some (.d (.int seed)), some (.d (.int many)), some (.r S.length), some (.r (S.length + 1)), a, b] ∧ S' = S ++ [OwO s.1, .lst s.2] ∧ 0 ≤ s.1 ∧ s.1 < 2147483647 ∧ s.2.length + r ≤ 1000000)
    (spanS 30) (seed % 2147483647, []) ?_ ?_ ?_
  · exact ⟨none, none, rfl, rfl, (emod_rng _ (by omega)).1, (emod_rng _ (by omega)).2, by rw [rgD_len]; simp; omega⟩
  · rintro r ⟨z, f⟩ d E S' hd ⟨a, b, rfl, rfl, z0, z1, hr⟩
    dsimp only at *
    have q1 := nxt_lo z
    have q2 := nxt_hi z
    refine ⟨[some (.d (.int seed)), some (.d (.int many)), some (.r S.length), some (.r (S.length + 1)), some (.d d), some (.d (.int (dr (nxt z) 100)))], S ++ [OwO (nxt (nxt z)), .lst (spanS 30 (z, f) d).2], .inl ?_, ?_⟩
    · have hf : f.length < 16777216 := by omega
      simp [Z.r_var, Z.r_varK, Z.r_C, Z.r_fn, Z.r_yes, Z.rd_d, Z.rd_r, Z.rdK_l, Z.rdK_f, Z.r_on1, Z.r_on2, Z.o1_s, Z.o2_s, Z.r_outN, Z.oK_v, Z.oK_l, Z.r_m1, Z.m1_o, Z.r_m2, Z.m2_o, Z.m2_p, Z.r_mB, Z.mB_o, Z.r_nil, Z.r_cons, Z.cn_o, Z.cn_p, Z.a1_s, Z.a2_s, Z.pu_nil, Z.pu_cons, Z.puK_s, Z.r_tup, Z.r_lst, Z.tp_s, Z.lt_s, Z.okLen_if, Z.r_fz, Z.fz_d, Z.fz_f, Z.fz_s, Z.fz_r, Z.fzR_l, Z.fzR_f, Z.r_T, Z.t_o, Z.tL_b, Z.r_not, Z.nt_o, Z.r_and, Z.r_or, Z.an_t, Z.an_f, Z.or_t, Z.or_f, Z.r_seq, Z.sq_n, Z.sq_r, Z.sq_b, Z.sq_c, Z.r_drop, Z.dr_o, Z.r_ret, Z.rt_o, Z.r_retN, Z.r_if, Z.if_o, Z.if_t', Z.if_f', Z.r_skip, Z.r_bk, Z.r_ct, Z.r_set, Z.st_o, Z.r_asg, Z.as_o, Z.as_p, Z.g_nm, Z.g_tp, Z.g_nil, Z.g_cons, Z.gc_o, Z.r_par, Z.pr_o, Z.pr_p, Z.sA_nil, Z.sA_cons, Z.r_fnM, Z.fn_n, Z.fn_d, Z.fn_r, Z.fr_l, Z.fr_f, Z.fr_i, Z.r_call, Z.cl_o, Z.r_callV, Z.cv_s, Z.in_r, Z.in_s, Z.r_fld, Z.fd_o, Z.fd_p, Z.fd_q, Z.r_setF, Z.sf_o, Z.sf_p, Z.sf_q, Z.r_meth, Z.mt_o, Z.mt_p, Z.mt_q, Z.r_make, Z.mk_o, Z.mk_p, Z.r_mt, Z.mm_o, Z.mm_p, Z.mm_q, Z.mm_r, Z.mm_s, Z.f_app, Z.f_ext, Z.ex_s, Z.f_popAt, Z.r_setIx, Z.si_o, Z.si_p, Z.si_q, Z.si_r, Z.sl_s, Z.r_augIx, Z.ai_o, Z.ai_p, Z.ai_q, Z.ai_r, Z.ai_s, Z.r_getL, Z.gl_s, Z.ip_add, Z.ip_sub, Z.r_aug, Z.ag_o, Z.ag_p, Z.ag_q, Z.r_ifE, Z.i_t, Z.i_f, Z.i_o, Z.r_andV, Z.av_o, Z.av_t, Z.av_f, Z.onB_K, Z.oBK_s, Z.r_chain, Z.ch_a, Z.ch_b, Z.ch_t, Z.ch_f, Z.ch_d, Z.ch_e, Z.r_chain3, Z.c3_a, Z.c3_b, Z.c3_t, Z.c3_f, Z.c3_d, Z.r_sl, Z.sl_a, Z.sl_b, Z.sl_c, Z.pt_n, Z.pt_s, Z.pt_o, Z.pt_i, Z.gs_d, Z.gs_r, Z.gs_s, Z.gSl_l, Z.gSl_t, Z.r_it, Z.it_l, Z.it_t, Z.r_enum, Z.en_l, Z.en_t, Z.r_rng1, Z.r_rng2, Z.r1_o, Z.r2_o, Z.r_for, Z.fo_o, Z.bd_o, Z.for_nil, Z.fl_n, Z.fl_c, Z.fl_b, Z.fl_r, Z.wc_t, Z.wc_f, Z.wb_n, Z.wb_r, Z.lc_nil, Z.lc_z, Z.lc_t, Z.lc_f, Z.lc_b, Z.lc_c, Z.r_lc, Z.lm_o, Z.lm_p, Z.gAdd_ii, Z.gAdd_ll, Z.gAdd_tt, Z.gSub_ii, Z.gMul_ii, Z.gDiv_ii, Z.gMod_ii, Z.gPow_ii, Z.gNeg_i, Z.bV_s, Z.gIx_l, Z.gIx_t, Z.gLen_l, Z.gLen_t, Z.gTup_l, Z.gTup_t, Z.gLst_l, Z.gLst_t, Z.gInt_i, Z.gInt_b, Z.gAbs_i, Z.gNot_b, Z.gZip_tt, Z.gZip_ll, Z.gAll_l, Z.gAny_l, Z.gSum_l, Z.gLRg1, Z.atI_0, Z.atI_1, Z.atI_2, Z.atI_3, Z.gS0, Z.gSj, Z.tS0, Z.tSj, Z.sS0, Z.sSj, Z.tSe, Z.r_lc2, Z.l2_o, Z.tL_l, Z.tL_t, Z.tL_i, Z.blsOf_true, Z.all_true, gEq_ii, gNe_ii, gEq_bb, gNe_bb, gLt_ii, gLe_ii, gGt_ii, gGe_ii, sub_sub_drop, HT.sIx_none, take_self, take_set, len_set, set_set, r_setL, putD, ixN, ld0 z0 z1, ld0 q1 q2, hf, spanS]
    · exact ⟨_, _, rfl, rfl, nxt_lo _, nxt_hi _, by simp [spanS]; omega⟩
  · rintro E' S' ⟨a, b, rfl, rfl, _, _, _⟩
    simp [Z.r_var, Z.r_varK, Z.r_C, Z.r_fn, Z.r_yes, Z.rd_d, Z.rd_r, Z.rdK_l, Z.rdK_f, Z.r_on1, Z.r_on2, Z.o1_s, Z.o2_s, Z.r_outN, Z.oK_v, Z.oK_l, Z.r_m1, Z.m1_o, Z.r_m2, Z.m2_o, Z.m2_p, Z.r_mB, Z.mB_o, Z.r_nil, Z.r_cons, Z.cn_o, Z.cn_p, Z.a1_s, Z.a2_s, Z.pu_nil, Z.pu_cons, Z.puK_s, Z.r_tup, Z.r_lst, Z.tp_s, Z.lt_s, Z.okLen_if, Z.r_fz, Z.fz_d, Z.fz_f, Z.fz_s, Z.fz_r, Z.fzR_l, Z.fzR_f, Z.r_T, Z.t_o, Z.tL_b, Z.r_not, Z.nt_o, Z.r_and, Z.r_or, Z.an_t, Z.an_f, Z.or_t, Z.or_f, Z.r_seq, Z.sq_n, Z.sq_r, Z.sq_b, Z.sq_c, Z.r_drop, Z.dr_o, Z.r_ret, Z.rt_o, Z.r_retN, Z.r_if, Z.if_o, Z.if_t', Z.if_f', Z.r_skip, Z.r_bk, Z.r_ct, Z.r_set, Z.st_o, Z.r_asg, Z.as_o, Z.as_p, Z.g_nm, Z.g_tp, Z.g_nil, Z.g_cons, Z.gc_o, Z.r_par, Z.pr_o, Z.pr_p, Z.sA_nil, Z.sA_cons, Z.r_fnM, Z.fn_n, Z.fn_d, Z.fn_r, Z.fr_l, Z.fr_f, Z.fr_i, Z.r_call, Z.cl_o, Z.r_callV, Z.cv_s, Z.in_r, Z.in_s, Z.r_fld, Z.fd_o, Z.fd_p, Z.fd_q, Z.r_setF, Z.sf_o, Z.sf_p, Z.sf_q, Z.r_meth, Z.mt_o, Z.mt_p, Z.mt_q, Z.r_make, Z.mk_o, Z.mk_p, Z.r_mt, Z.mm_o, Z.mm_p, Z.mm_q, Z.mm_r, Z.mm_s, Z.f_app, Z.f_ext, Z.ex_s, Z.f_popAt, Z.r_setIx, Z.si_o, Z.si_p, Z.si_q, Z.si_r, Z.sl_s, Z.r_augIx, Z.ai_o, Z.ai_p, Z.ai_q, Z.ai_r, Z.ai_s, Z.r_getL, Z.gl_s, Z.ip_add, Z.ip_sub, Z.r_aug, Z.ag_o, Z.ag_p, Z.ag_q, Z.r_ifE, Z.i_t, Z.i_f, Z.i_o, Z.r_andV, Z.av_o, Z.av_t, Z.av_f, Z.onB_K, Z.oBK_s, Z.r_chain, Z.ch_a, Z.ch_b, Z.ch_t, Z.ch_f, Z.ch_d, Z.ch_e, Z.r_chain3, Z.c3_a, Z.c3_b, Z.c3_t, Z.c3_f, Z.c3_d, Z.r_sl, Z.sl_a, Z.sl_b, Z.sl_c, Z.pt_n, Z.pt_s, Z.pt_o, Z.pt_i, Z.gs_d, Z.gs_r, Z.gs_s, Z.gSl_l, Z.gSl_t, Z.r_it, Z.it_l, Z.it_t, Z.r_enum, Z.en_l, Z.en_t, Z.r_rng1, Z.r_rng2, Z.r1_o, Z.r2_o, Z.r_for, Z.fo_o, Z.bd_o, Z.for_nil, Z.fl_n, Z.fl_c, Z.fl_b, Z.fl_r, Z.wc_t, Z.wc_f, Z.wb_n, Z.wb_r, Z.lc_nil, Z.lc_z, Z.lc_t, Z.lc_f, Z.lc_b, Z.lc_c, Z.r_lc, Z.lm_o, Z.lm_p, Z.gAdd_ii, Z.gAdd_ll, Z.gAdd_tt, Z.gSub_ii, Z.gMul_ii, Z.gDiv_ii, Z.gMod_ii, Z.gPow_ii, Z.gNeg_i, Z.bV_s, Z.gIx_l, Z.gIx_t, Z.gLen_l, Z.gLen_t, Z.gTup_l, Z.gTup_t, Z.gLst_l, Z.gLst_t, Z.gInt_i, Z.gInt_b, Z.gAbs_i, Z.gNot_b, Z.gZip_tt, Z.gZip_ll, Z.gAll_l, Z.gAny_l, Z.gSum_l, Z.gLRg1, Z.atI_0, Z.atI_1, Z.atI_2, Z.atI_3, Z.gS0, Z.gSj, Z.tS0, Z.tSj, Z.sS0, Z.sSj, Z.tSe, Z.r_lc2, Z.l2_o, Z.tL_l, Z.tL_t, Z.tL_i, Z.blsOf_true, Z.all_true, gEq_ii, gNe_ii, gEq_bb, gNe_bb, gLt_ii, gLe_ii, gGt_ii, gGe_ii, sub_sub_drop, HT.sIx_none, take_self, take_set, len_set, set_set, r_setL, putD, ixN]
    rfl
/-! couples -/
def intD : D → Int
  | .int i => i
  | _ => 0
def pairD (d e : D) : D := .tuple [d, e]
def cps1 (n : Int) (d : D) : List D := rgD (intD d + 1) (n - (intD d + 1)).toNat
def cpl (n : Int) : List D := (rgD 0 n.toNat).flatMap fun d => (cps1 n d).map (pairD d)
theorem mem_rgD {lo : Int} {n : Nat} {d : D} (h : d ∈ rgD lo n) : ∃ i : Int, d = .int i ∧ lo ≤ i ∧ i < lo + n := by
  unfold rgD at h
  obtain ⟨j, hj, e⟩ := List.mem_map.mp h
  rw [List.mem_range] at hj
  exact ⟨lo + j, e.symm, by omega, by omega⟩
theorem cpl_len {n : Int} (h0 : 0 ≤ n) (h1 : n ≤ 10) : (cpl n).length ≤ 100 := by
  have h : ∀ m : Fin 11, (cpl (m.1 : Int)).length ≤ 100 := by decide +kernel
  have := h ⟨n.toNat, by omega⟩
  rw [show ((n.toNat : Nat) : Int) = n by omega] at this
  exact this
theorem all_couples_ok {S : Sto} {n : Int} (h0 : 0 ≤ n) (h1 : n ≤ 10) : p_all_couples [.d (.int n)] S = .ok (.r S.length) (S ++ [.lst (cpl n)]) := by
  unfold p_all_couples
  simp [m_all_couples, Z.r_var, Z.r_varK, Z.r_C, Z.r_fn, Z.r_yes, Z.rd_d, Z.rd_r, Z.rdK_l, Z.rdK_f, Z.r_on1, Z.r_on2, Z.o1_s, Z.o2_s, Z.r_outN, Z.oK_v, Z.oK_l, Z.r_m1, Z.m1_o, Z.r_m2, Z.m2_o, Z.m2_p, Z.r_mB, Z.mB_o, Z.r_nil, Z.r_cons, Z.cn_o, Z.cn_p, Z.a1_s, Z.a2_s, Z.pu_nil, Z.pu_cons, Z.puK_s, Z.r_tup, Z.r_lst, Z.tp_s, Z.lt_s, Z.okLen_if, Z.r_fz, Z.fz_d, Z.fz_f, Z.fz_s, Z.fz_r, Z.fzR_l, Z.fzR_f, Z.r_T, Z.t_o, Z.tL_b, Z.r_not, Z.nt_o, Z.r_and, Z.r_or, Z.an_t, Z.an_f, Z.or_t, Z.or_f, Z.r_seq, Z.sq_n, Z.sq_r, Z.sq_b, Z.sq_c, Z.r_drop, Z.dr_o, Z.r_ret, Z.rt_o, Z.r_retN, Z.r_if, Z.if_o, Z.if_t', Z.if_f', Z.r_skip, Z.r_bk, Z.r_ct, Z.r_set, Z.st_o, Z.r_asg, Z.as_o, Z.as_p, Z.g_nm, Z.g_tp, Z.g_nil, Z.g_cons, Z.gc_o, Z.r_par, Z.pr_o, Z.pr_p, Z.sA_nil, Z.sA_cons, Z.r_fnM, Z.fn_n, Z.fn_d, Z.fn_r, Z.fr_l, Z.fr_f, Z.fr_i, Z.r_call, Z.cl_o, Z.r_callV, Z.cv_s, Z.in_r, Z.in_s, Z.r_fld, Z.fd_o, Z.fd_p, Z.fd_q, Z.r_setF, Z.sf_o, Z.sf_p, Z.sf_q, Z.r_meth, Z.mt_o, Z.mt_p, Z.mt_q, Z.r_make, Z.mk_o, Z.mk_p, Z.r_mt, Z.mm_o, Z.mm_p, Z.mm_q, Z.mm_r, Z.mm_s, Z.f_app, Z.f_ext, Z.ex_s, Z.f_popAt, Z.r_setIx, Z.si_o, Z.si_p, Z.si_q, Z.si_r, Z.sl_s, Z.r_augIx, Z.ai_o, Z.ai_p, Z.ai_q, Z.ai_r, Z.ai_s, Z.r_getL, Z.gl_s, Z.ip_add, Z.ip_sub, Z.r_aug, Z.ag_o, Z.ag_p, Z.ag_q, Z.r_ifE, Z.i_t, Z.i_f, Z.i_o, Z.r_andV, Z.av_o, Z.av_t, Z.av_f, Z.onB_K, Z.oBK_s, Z.r_chain, Z.ch_a, Z.ch_b, Z.ch_t, Z.ch_f, Z.ch_d, Z.ch_e, Z.r_chain3, Z.c3_a, Z.c3_b, Z.c3_t, Z.c3_f, Z.c3_d, Z.r_sl, Z.sl_a, Z.sl_b, Z.sl_c, Z.pt_n, Z.pt_s, Z.pt_o, Z.pt_i, Z.gs_d, Z.gs_r, Z.gs_s, Z.gSl_l, Z.gSl_t, Z.r_it, Z.it_l, Z.it_t, Z.r_enum, Z.en_l, Z.en_t, Z.r_rng1, Z.r_rng2, Z.r1_o, Z.r2_o, Z.r_for, Z.fo_o, Z.bd_o, Z.for_nil, Z.fl_n, Z.fl_c, Z.fl_b, Z.fl_r, Z.wc_t, Z.wc_f, Z.wb_n, Z.wb_r, Z.lc_nil, Z.lc_z, Z.lc_t, Z.lc_f, Z.lc_b, Z.lc_c, Z.r_lc, Z.lm_o, Z.lm_p, Z.gAdd_ii, Z.gAdd_ll, Z.gAdd_tt, Z.gSub_ii, Z.gMul_ii, Z.gDiv_ii, Z.gMod_ii, Z.gPow_ii, Z.gNeg_i, Z.bV_s, Z.gIx_l, Z.gIx_t, Z.gLen_l, Z.gLen_t, Z.gTup_l, Z.gTup_t, Z.gLst_l, Z.gLst_t, Z.gInt_i, Z.gInt_b, Z.gAbs_i, Z.gNot_b, Z.gZip_tt, Z.gZip_ll, Z.gAll_l, Z.gAny_l, Z.gSum_l, Z.gLRg1, Z.atI_0, Z.atI_1, Z.atI_2, Z.atI_3, Z.gS0, Z.gSj, Z.tS0, Z.tSj, Z.sS0, Z.sSj, Z.tSe, Z.r_lc2, Z.l2_o, Z.tL_l, Z.tL_t, Z.tL_i, Z.blsOf_true, Z.all_true, gEq_ii, gNe_ii, gEq_bb, gNe_bb, gLt_ii, gLe_ii, gGt_ii, gGe_ii, sub_sub_drop, HT.sIx_none, take_self, take_set, len_set, set_set, r_setL, putD, ixN, sm62 (show -1000000000 ≤ n by omega) (by omega), wipeE]
  have hc := cpl_len h0 h1
  unfold cpl at hc
  rw [lc2_map (cps1 n) pairD]
  · simp [Z.r_var, Z.r_varK, Z.r_C, Z.r_fn, Z.r_yes, Z.rd_d, Z.rd_r, Z.rdK_l, Z.rdK_f, Z.r_on1, Z.r_on2, Z.o1_s, Z.o2_s, Z.r_outN, Z.oK_v, Z.oK_l, Z.r_m1, Z.m1_o, Z.r_m2, Z.m2_o, Z.m2_p, Z.r_mB, Z.mB_o, Z.r_nil, Z.r_cons, Z.cn_o, Z.cn_p, Z.a1_s, Z.a2_s, Z.pu_nil, Z.pu_cons, Z.puK_s, Z.r_tup, Z.r_lst, Z.tp_s, Z.lt_s, Z.okLen_if, Z.r_fz, Z.fz_d, Z.fz_f, Z.fz_s, Z.fz_r, Z.fzR_l, Z.fzR_f, Z.r_T, Z.t_o, Z.tL_b, Z.r_not, Z.nt_o, Z.r_and, Z.r_or, Z.an_t, Z.an_f, Z.or_t, Z.or_f, Z.r_seq, Z.sq_n, Z.sq_r, Z.sq_b, Z.sq_c, Z.r_drop, Z.dr_o, Z.r_ret, Z.rt_o, Z.r_retN, Z.r_if, Z.if_o, Z.if_t', Z.if_f', Z.r_skip, Z.r_bk, Z.r_ct, Z.r_set, Z.st_o, Z.r_asg, Z.as_o, Z.as_p, Z.g_nm, Z.g_tp, Z.g_nil, Z.g_cons, Z.gc_o, Z.r_par, Z.pr_o, Z.pr_p, Z.sA_nil, Z.sA_cons, Z.r_fnM, Z.fn_n, Z.fn_d, Z.fn_r, Z.fr_l, Z.fr_f, Z.fr_i, Z.r_call, Z.cl_o, Z.r_callV, Z.cv_s, Z.in_r, Z.in_s, Z.r_fld, Z.fd_o, Z.fd_p, Z.fd_q, Z.r_setF, Z.sf_o, Z.sf_p, Z.sf_q, Z.r_meth, Z.mt_o, Z.mt_p, Z.mt_q, Z.r_make, Z.mk_o, Z.mk_p, Z.r_mt, Z.mm_o, Z.mm_p, Z.mm_q, Z.mm_r, Z.mm_s, Z.f_app, Z.f_ext, Z.ex_s, Z.f_popAt, Z.r_setIx, Z.si_o, Z.si_p, Z.si_q, Z.si_r, Z.sl_s, Z.r_augIx, Z.ai_o, Z.ai_p, Z.ai_q, Z.ai_r, Z.ai_s, Z.r_getL, Z.gl_s, Z.ip_add, Z.ip_sub, Z.r_aug, Z.ag_o, Z.ag_p, Z.ag_q, Z.r_ifE, Z.i_t, Z.i_f, Z.i_o, Z.r_andV, Z.av_o, Z.av_t, Z.av_f, Z.onB_K, Z.oBK_s, Z.r_chain, Z.ch_a, Z.ch_b, Z.ch_t, Z.ch_f, Z.ch_d, Z.ch_e, Z.r_chain3, Z.c3_a, Z.c3_b, Z.c3_t, Z.c3_f, Z.c3_d, Z.r_sl, Z.sl_a, Z.sl_b, Z.sl_c, Z.pt_n, Z.pt_s, Z.pt_o, Z.pt_i, Z.gs_d, Z.gs_r, Z.gs_s, Z.gSl_l, Z.gSl_t, Z.r_it, Z.it_l, Z.it_t, Z.r_enum, Z.en_l, Z.en_t, Z.r_rng1, Z.r_rng2, Z.r1_o, Z.r2_o, Z.r_for, Z.fo_o, Z.bd_o, Z.for_nil, Z.fl_n, Z.fl_c, Z.fl_b, Z.fl_r, Z.wc_t, Z.wc_f, Z.wb_n, Z.wb_r, Z.lc_nil, Z.lc_z, Z.lc_t, Z.lc_f, Z.lc_b, Z.lc_c, Z.r_lc, Z.lm_o, Z.lm_p, Z.gAdd_ii, Z.gAdd_ll, Z.gAdd_tt, Z.gSub_ii, Z.gMul_ii, Z.gDiv_ii, Z.gMod_ii, Z.gPow_ii, Z.gNeg_i, Z.bV_s, Z.gIx_l, Z.gIx_t, Z.gLen_l, Z.gLen_t, Z.gTup_l, Z.gTup_t, Z.gLst_l, Z.gLst_t, Z.gInt_i, Z.gInt_b, Z.gAbs_i, Z.gNot_b, Z.gZip_tt, Z.gZip_ll, Z.gAll_l, Z.gAny_l, Z.gSum_l, Z.gLRg1, Z.atI_0, Z.atI_1, Z.atI_2, Z.atI_3, Z.gS0, Z.gSj, Z.tS0, Z.tSj, Z.sS0, Z.sSj, Z.tSe, Z.r_lc2, Z.l2_o, Z.tL_l, Z.tL_t, Z.tL_i, Z.blsOf_true, Z.all_true, gEq_ii, gNe_ii, gEq_bb, gNe_bb, gLt_ii, gLe_ii, gGt_ii, gGe_ii, sub_sub_drop, HT.sIx_none, take_self, take_set, len_set, set_set, r_setL, putD, ixN]
    rfl
  · simpa using Nat.le_trans hc (by decide)
  · intro d hd
    obtain ⟨i, rfl, i0, i1⟩ := mem_rgD hd
    refine ⟨[some (.d (.int n)), some (.d (.int i)), none], fun acc => ⟨?_, ?_, ?_⟩, fun e he acc => ⟨[some (.d (.int n)), some (.d (.int i)), some (.d e)], ?_, ?_, ?_⟩⟩
    · simp [Z.r_var, Z.r_varK, Z.r_C, Z.r_fn, Z.r_yes, Z.rd_d, Z.rd_r, Z.rdK_l, Z.rdK_f, Z.r_on1, Z.r_on2, Z.o1_s, Z.o2_s, Z.r_outN, Z.oK_v, Z.oK_l, Z.r_m1, Z.m1_o, Z.r_m2, Z.m2_o, Z.m2_p, Z.r_mB, Z.mB_o, Z.r_nil, Z.r_cons, Z.cn_o, Z.cn_p, Z.a1_s, Z.a2_s, Z.pu_nil, Z.pu_cons, Z.puK_s, Z.r_tup, Z.r_lst, Z.tp_s, Z.lt_s, Z.okLen_if, Z.r_fz, Z.fz_d, Z.fz_f, Z.fz_s, Z.fz_r, Z.fzR_l, Z.fzR_f, Z.r_T, Z.t_o, Z.tL_b, Z.r_not, Z.nt_o, Z.r_and, Z.r_or, Z.an_t, Z.an_f, Z.or_t, Z.or_f, Z.r_seq, Z.sq_n, Z.sq_r, Z.sq_b, Z.sq_c, Z.r_drop, Z.dr_o, Z.r_ret, Z.rt_o, Z.r_retN, Z.r_if, Z.if_o, Z.if_t', Z.if_f', Z.r_skip, Z.r_bk, Z.r_ct, Z.r_set, Z.st_o, Z.r_asg, Z.as_o, Z.as_p, Z.g_nm, Z.g_tp, Z.g_nil, Z.g_cons, Z.gc_o, Z.r_par, Z.pr_o, Z.pr_p, Z.sA_nil, Z.sA_cons, Z.r_fnM, Z.fn_n, Z.fn_d, Z.fn_r, Z.fr_l, Z.fr_f, Z.fr_i, Z.r_call, Z.cl_o, Z.r_callV, Z.cv_s, Z.in_r, Z.in_s, Z.r_fld, Z.fd_o, Z.fd_p, Z.fd_q, Z.r_setF, Z.sf_o, Z.sf_p, Z.sf_q, Z.r_meth, Z.mt_o, Z.mt_p, Z.mt_q, Z.r_make, Z.mk_o, Z.mk_p, Z.r_mt, Z.mm_o, Z.mm_p, Z.mm_q, Z.mm_r, Z.mm_s, Z.f_app, Z.f_ext, Z.ex_s, Z.f_popAt, Z.r_setIx, Z.si_o, Z.si_p, Z.si_q, Z.si_r, Z.sl_s, Z.r_augIx, Z.ai_o, Z.ai_p, Z.ai_q, Z.ai_r, Z.ai_s, Z.r_getL, Z.gl_s, Z.ip_add, Z.ip_sub, Z.r_aug, Z.ag_o, Z.ag_p, Z.ag_q, Z.r_ifE, Z.i_t, Z.i_f, Z.i_o, Z.r_andV, Z.av_o, Z.av_t, Z.av_f, Z.onB_K, Z.oBK_s, Z.r_chain, Z.ch_a, Z.ch_b, Z.ch_t, Z.ch_f, Z.ch_d, Z.ch_e, Z.r_chain3, Z.c3_a, Z.c3_b, Z.c3_t, Z.c3_f, Z.c3_d, Z.r_sl, Z.sl_a, Z.sl_b, Z.sl_c, Z.pt_n, Z.pt_s, Z.pt_o, Z.pt_i, Z.gs_d, Z.gs_r, Z.gs_s, Z.gSl_l, Z.gSl_t, Z.r_it, Z.it_l, Z.it_t, Z.r_enum, Z.en_l, Z.en_t, Z.r_rng1, Z.r_rng2, Z.r1_o, Z.r2_o, Z.r_for, Z.fo_o, Z.bd_o, Z.for_nil, Z.fl_n, Z.fl_c, Z.fl_b, Z.fl_r, Z.wc_t, Z.wc_f, Z.wb_n, Z.wb_r, Z.lc_nil, Z.lc_z, Z.lc_t, Z.lc_f, Z.lc_b, Z.lc_c, Z.r_lc, Z.lm_o, Z.lm_p, Z.gAdd_ii, Z.gAdd_ll, Z.gAdd_tt, Z.gSub_ii, Z.gMul_ii, Z.gDiv_ii, Z.gMod_ii, Z.gPow_ii, Z.gNeg_i, Z.bV_s, Z.gIx_l, Z.gIx_t, Z.gLen_l, Z.gLen_t, Z.gTup_l, Z.gTup_t, Z.gLst_l, Z.gLst_t, Z.gInt_i, Z.gInt_b, Z.gAbs_i, Z.gNot_b, Z.gZip_tt, Z.gZip_ll, Z.gAll_l, Z.gAny_l, Z.gSum_l, Z.gLRg1, Z.atI_0, Z.atI_1, Z.atI_2, Z.atI_3, Z.gS0, Z.gSj, Z.tS0, Z.tSj, Z.sS0, Z.sSj, Z.tSe, Z.r_lc2, Z.l2_o, Z.tL_l, Z.tL_t, Z.tL_i, Z.blsOf_true, Z.all_true, gEq_ii, gNe_ii, gEq_bb, gNe_bb, gLt_ii, gLe_ii, gGt_ii, gGe_ii, sub_sub_drop, HT.sIx_none, take_self, take_set, len_set, set_set, r_setL, putD, ixN]
    · simp [Z.r_var, Z.r_varK, Z.r_C, Z.r_fn, Z.r_yes, Z.rd_d, Z.rd_r, Z.rdK_l, Z.rdK_f, Z.r_on1, Z.r_on2, Z.o1_s, Z.o2_s, Z.r_outN, Z.oK_v, Z.oK_l, Z.r_m1, Z.m1_o, Z.r_m2, Z.m2_o, Z.m2_p, Z.r_mB, Z.mB_o, Z.r_nil, Z.r_cons, Z.cn_o, Z.cn_p, Z.a1_s, Z.a2_s, Z.pu_nil, Z.pu_cons, Z.puK_s, Z.r_tup, Z.r_lst, Z.tp_s, Z.lt_s, Z.okLen_if, Z.r_fz, Z.fz_d, Z.fz_f, Z.fz_s, Z.fz_r, Z.fzR_l, Z.fzR_f, Z.r_T, Z.t_o, Z.tL_b, Z.r_not, Z.nt_o, Z.r_and, Z.r_or, Z.an_t, Z.an_f, Z.or_t, Z.or_f, Z.r_seq, Z.sq_n, Z.sq_r, Z.sq_b, Z.sq_c, Z.r_drop, Z.dr_o, Z.r_ret, Z.rt_o, Z.r_retN, Z.r_if, Z.if_o, Z.if_t', Z.if_f', Z.r_skip, Z.r_bk, Z.r_ct, Z.r_set, Z.st_o, Z.r_asg, Z.as_o, Z.as_p, Z.g_nm, Z.g_tp, Z.g_nil, Z.g_cons, Z.gc_o, Z.r_par, Z.pr_o, Z.pr_p, Z.sA_nil, Z.sA_cons, Z.r_fnM, Z.fn_n, Z.fn_d, Z.fn_r, Z.fr_l, Z.fr_f, Z.fr_i, Z.r_call, Z.cl_o, Z.r_callV, Z.cv_s, Z.in_r, Z.in_s, Z.r_fld, Z.fd_o, Z.fd_p, Z.fd_q, Z.r_setF, Z.sf_o, Z.sf_p, Z.sf_q, Z.r_meth, Z.mt_o, Z.mt_p, Z.mt_q, Z.r_make, Z.mk_o, Z.mk_p, Z.r_mt, Z.mm_o, Z.mm_p, Z.mm_q, Z.mm_r, Z.mm_s, Z.f_app, Z.f_ext, Z.ex_s, Z.f_popAt, Z.r_setIx, Z.si_o, Z.si_p, Z.si_q, Z.si_r, Z.sl_s, Z.r_augIx, Z.ai_o, Z.ai_p, Z.ai_q, Z.ai_r, Z.ai_s, Z.r_getL, Z.gl_s, Z.ip_add, Z.ip_sub, Z.r_aug, Z.ag_o, Z.ag_p, Z.ag_q, Z.r_ifE, Z.i_t, Z.i_f, Z.i_o, Z.r_andV, Z.av_o, Z.av_t, Z.av_f, Z.onB_K, Z.oBK_s, Z.r_chain, Z.ch_a, Z.ch_b, Z.ch_t, Z.ch_f, Z.ch_d, Z.ch_e, Z.r_chain3, Z.c3_a, Z.c3_b, Z.c3_t, Z.c3_f, Z.c3_d, Z.r_sl, Z.sl_a, Z.sl_b, Z.sl_c, Z.pt_n, Z.pt_s, Z.pt_o, Z.pt_i, Z.gs_d, Z.gs_r, Z.gs_s, Z.gSl_l, Z.gSl_t, Z.r_it, Z.it_l, Z.it_t, Z.r_enum, Z.en_l, Z.en_t, Z.r_rng1, Z.r_rng2, Z.r1_o, Z.r2_o, Z.r_for, Z.fo_o, Z.bd_o, Z.for_nil, Z.fl_n, Z.fl_c, Z.fl_b, Z.fl_r, Z.wc_t, Z.wc_f, Z.wb_n, Z.wb_r, Z.lc_nil, Z.lc_z, Z.lc_t, Z.lc_f, Z.lc_b, Z.lc_c, Z.r_lc, Z.lm_o, Z.lm_p, Z.gAdd_ii, Z.gAdd_ll, Z.gAdd_tt, Z.gSub_ii, Z.gMul_ii, Z.gDiv_ii, Z.gMod_ii, Z.gPow_ii, Z.gNeg_i, Z.bV_s, Z.gIx_l, Z.gIx_t, Z.gLen_l, Z.gLen_t, Z.gTup_l, Z.gTup_t, Z.gLst_l, Z.gLst_t, Z.gInt_i, Z.gInt_b, Z.gAbs_i, Z.gNot_b, Z.gZip_tt, Z.gZip_ll, Z.gAll_l, Z.gAny_l, Z.gSum_l, Z.gLRg1, Z.atI_0, Z.atI_1, Z.atI_2, Z.atI_3, Z.gS0, Z.gSj, Z.tS0, Z.tSj, Z.sS0, Z.sSj, Z.tSe, Z.r_lc2, Z.l2_o, Z.tL_l, Z.tL_t, Z.tL_i, Z.blsOf_true, Z.all_true, gEq_ii, gNe_ii, gEq_bb, gNe_bb, gLt_ii, gLe_ii, gGt_ii, gGe_ii, sub_sub_drop, HT.sIx_none, take_self, take_set, len_set, set_set, r_setL, putD, ixN]
    · simp [Z.r_var, Z.r_varK, Z.r_C, Z.r_fn, Z.r_yes, Z.rd_d, Z.rd_r, Z.rdK_l, Z.rdK_f, Z.r_on1, Z.r_on2, Z.o1_s, Z.o2_s, Z.r_outN, Z.oK_v, Z.oK_l, Z.r_m1, Z.m1_o, Z.r_m2, Z.m2_o, Z.m2_p, Z.r_mB, Z.mB_o, Z.r_nil, Z.r_cons, Z.cn_o, Z.cn_p, Z.a1_s, Z.a2_s, Z.pu_nil, Z.pu_cons, Z.puK_s, Z.r_tup, Z.r_lst, Z.tp_s, Z.lt_s, Z.okLen_if, Z.r_fz, Z.fz_d, Z.fz_f, Z.fz_s, Z.fz_r, Z.fzR_l, Z.fzR_f, Z.r_T, Z.t_o, Z.tL_b, Z.r_not, Z.nt_o, Z.r_and, Z.r_or, Z.an_t, Z.an_f, Z.or_t, Z.or_f, Z.r_seq, Z.sq_n, Z.sq_r, Z.sq_b, Z.sq_c, Z.r_drop, Z.dr_o, Z.r_ret, Z.rt_o, Z.r_retN, Z.r_if, Z.if_o, Z.if_t', Z.if_f', Z.r_skip, Z.r_bk, Z.r_ct, Z.r_set, Z.st_o, Z.r_asg, Z.as_o, Z.as_p, Z.g_nm, Z.g_tp, Z.g_nil, Z.g_cons, Z.gc_o, Z.r_par, Z.pr_o, Z.pr_p, Z.sA_nil, Z.sA_cons, Z.r_fnM, Z.fn_n, Z.fn_d, Z.fn_r, Z.fr_l, Z.fr_f, Z.fr_i, Z.r_call, Z.cl_o, Z.r_callV, Z.cv_s, Z.in_r, Z.in_s, Z.r_fld, Z.fd_o, Z.fd_p, Z.fd_q, Z.r_setF, Z.sf_o, Z.sf_p, Z.sf_q, Z.r_meth, Z.mt_o, Z.mt_p, Z.mt_q, Z.r_make, Z.mk_o, Z.mk_p, Z.r_mt, Z.mm_o, Z.mm_p, Z.mm_q, Z.mm_r, Z.mm_s, Z.f_app, Z.f_ext, Z.ex_s, Z.f_popAt, Z.r_setIx, Z.si_o, Z.si_p, Z.si_q, Z.si_r, Z.sl_s, Z.r_augIx, Z.ai_o, Z.ai_p, Z.ai_q, Z.ai_r, Z.ai_s, Z.r_getL, Z.gl_s, Z.ip_add, Z.ip_sub, Z.r_aug, Z.ag_o, Z.ag_p, Z.ag_q, Z.r_ifE, Z.i_t, Z.i_f, Z.i_o, Z.r_andV, Z.av_o, Z.av_t, Z.av_f, Z.onB_K, Z.oBK_s, Z.r_chain, Z.ch_a, Z.ch_b, Z.ch_t, Z.ch_f, Z.ch_d, Z.ch_e, Z.r_chain3, Z.c3_a, Z.c3_b, Z.c3_t, Z.c3_f, Z.c3_d, Z.r_sl, Z.sl_a, Z.sl_b, Z.sl_c, Z.pt_n, Z.pt_s, Z.pt_o, Z.pt_i, Z.gs_d, Z.gs_r, Z.gs_s, Z.gSl_l, Z.gSl_t, Z.r_it, Z.it_l, Z.it_t, Z.r_enum, Z.en_l, Z.en_t, Z.r_rng1, Z.r_rng2, Z.r1_o, Z.r2_o, Z.r_for, Z.fo_o, Z.bd_o, Z.for_nil, Z.fl_n, Z.fl_c, Z.fl_b, Z.fl_r, Z.wc_t, Z.wc_f, Z.wb_n, Z.wb_r, Z.lc_nil, Z.lc_z, Z.lc_t, Z.lc_f, Z.lc_b, Z.lc_c, Z.r_lc, Z.lm_o, Z.lm_p, Z.gAdd_ii, Z.gAdd_ll, Z.gAdd_tt, Z.gSub_ii, Z.gMul_ii, Z.gDiv_ii, Z.gMod_ii, Z.gPow_ii, Z.gNeg_i, Z.bV_s, Z.gIx_l, Z.gIx_t, Z.gLen_l, Z.gLen_t, Z.gTup_l, Z.gTup_t, Z.gLst_l, Z.gLst_t, Z.gInt_i, Z.gInt_b, Z.gAbs_i, Z.gNot_b, Z.gZip_tt, Z.gZip_ll, Z.gAll_l, Z.gAny_l, Z.gSum_l, Z.gLRg1, Z.atI_0, Z.atI_1, Z.atI_2, Z.atI_3, Z.gS0, Z.gSj, Z.tS0, Z.tSj, Z.sS0, Z.sSj, Z.tSe, Z.r_lc2, Z.l2_o, Z.tL_l, Z.tL_t, Z.tL_i, Z.blsOf_true, Z.all_true, gEq_ii, gNe_ii, gEq_bb, gNe_bb, gLt_ii, gLe_ii, gGt_ii, gGe_ii, sub_sub_drop, HT.sIx_none, take_self, take_set, len_set, set_set, r_setL, putD, ixN, sm62 (show -1000000000 ≤ n by omega) (by omega), sm62 (show -1000000000 ≤ i + 1 by omega) (by omega)]
      rfl
    · simp [Z.r_var, Z.r_varK, Z.r_C, Z.r_fn, Z.r_yes, Z.rd_d, Z.rd_r, Z.rdK_l, Z.rdK_f, Z.r_on1, Z.r_on2, Z.o1_s, Z.o2_s, Z.r_outN, Z.oK_v, Z.oK_l, Z.r_m1, Z.m1_o, Z.r_m2, Z.m2_o, Z.m2_p, Z.r_mB, Z.mB_o, Z.r_nil, Z.r_cons, Z.cn_o, Z.cn_p, Z.a1_s, Z.a2_s, Z.pu_nil, Z.pu_cons, Z.puK_s, Z.r_tup, Z.r_lst, Z.tp_s, Z.lt_s, Z.okLen_if, Z.r_fz, Z.fz_d, Z.fz_f, Z.fz_s, Z.fz_r, Z.fzR_l, Z.fzR_f, Z.r_T, Z.t_o, Z.tL_b, Z.r_not, Z.nt_o, Z.r_and, Z.r_or, Z.an_t, Z.an_f, Z.or_t, Z.or_f, Z.r_seq, Z.sq_n, Z.sq_r, Z.sq_b, Z.sq_c, Z.r_drop, Z.dr_o, Z.r_ret, Z.rt_o, Z.r_retN, Z.r_if, Z.if_o, Z.if_t', Z.if_f', Z.r_skip, Z.r_bk, Z.r_ct, Z.r_set, Z.st_o, Z.r_asg, Z.as_o, Z.as_p, Z.g_nm, Z.g_tp, Z.g_nil, Z.g_cons, Z.gc_o, Z.r_par, Z.pr_o, Z.pr_p, Z.sA_nil, Z.sA_cons, Z.r_fnM, Z.fn_n, Z.fn_d, Z.fn_r, Z.fr_l, Z.fr_f, Z.fr_i, Z.r_call, Z.cl_o, Z.r_callV, Z.cv_s, Z.in_r, Z.in_s, Z.r_fld, Z.fd_o, Z.fd_p, Z.fd_q, Z.r_setF, Z.sf_o, Z.sf_p, Z.sf_q, Z.r_meth, Z.mt_o, Z.mt_p, Z.mt_q, Z.r_make, Z.mk_o, Z.mk_p, Z.r_mt, Z.mm_o, Z.mm_p, Z.mm_q, Z.mm_r, Z.mm_s, Z.f_app, Z.f_ext, Z.ex_s, Z.f_popAt, Z.r_setIx, Z.si_o, Z.si_p, Z.si_q, Z.si_r, Z.sl_s, Z.r_augIx, Z.ai_o, Z.ai_p, Z.ai_q, Z.ai_r, Z.ai_s, Z.r_getL, Z.gl_s, Z.ip_add, Z.ip_sub, Z.r_aug, Z.ag_o, Z.ag_p, Z.ag_q, Z.r_ifE, Z.i_t, Z.i_f, Z.i_o, Z.r_andV, Z.av_o, Z.av_t, Z.av_f, Z.onB_K, Z.oBK_s, Z.r_chain, Z.ch_a, Z.ch_b, Z.ch_t, Z.ch_f, Z.ch_d, Z.ch_e, Z.r_chain3, Z.c3_a, Z.c3_b, Z.c3_t, Z.c3_f, Z.c3_d, Z.r_sl, Z.sl_a, Z.sl_b, Z.sl_c, Z.pt_n, Z.pt_s, Z.pt_o, Z.pt_i, Z.gs_d, Z.gs_r, Z.gs_s, Z.gSl_l, Z.gSl_t, Z.r_it, Z.it_l, Z.it_t, Z.r_enum, Z.en_l, Z.en_t, Z.r_rng1, Z.r_rng2, Z.r1_o, Z.r2_o, Z.r_for, Z.fo_o, Z.bd_o, Z.for_nil, Z.fl_n, Z.fl_c, Z.fl_b, Z.fl_r, Z.wc_t, Z.wc_f, Z.wb_n, Z.wb_r, Z.lc_nil, Z.lc_z, Z.lc_t, Z.lc_f, Z.lc_b, Z.lc_c, Z.r_lc, Z.lm_o, Z.lm_p, Z.gAdd_ii, Z.gAdd_ll, Z.gAdd_tt, Z.gSub_ii, Z.gMul_ii, Z.gDiv_ii, Z.gMod_ii, Z.gPow_ii, Z.gNeg_i, Z.bV_s, Z.gIx_l, Z.gIx_t, Z.gLen_l, Z.gLen_t, Z.gTup_l, Z.gTup_t, Z.gLst_l, Z.gLst_t, Z.gInt_i, Z.gInt_b, Z.gAbs_i, Z.gNot_b, Z.gZip_tt, Z.gZip_ll, Z.gAll_l, Z.gAny_l, Z.gSum_l, Z.gLRg1, Z.atI_0, Z.atI_1, Z.atI_2, Z.atI_3, Z.gS0, Z.gSj, Z.tS0, Z.tSj, Z.sS0, Z.sSj, Z.tSe, Z.r_lc2, Z.l2_o, Z.tL_l, Z.tL_t, Z.tL_i, Z.blsOf_true, Z.all_true, gEq_ii, gNe_ii, gEq_bb, gNe_bb, gLt_ii, gLe_ii, gGt_ii, gGe_ii, sub_sub_drop, HT.sIx_none, take_self, take_set, len_set, set_set, r_setL, putD, ixN, wipeE]
    · simp [Z.r_var, Z.r_varK, Z.r_C, Z.r_fn, Z.r_yes, Z.rd_d, Z.rd_r, Z.rdK_l, Z.rdK_f, Z.r_on1, Z.r_on2, Z.o1_s, Z.o2_s, Z.r_outN, Z.oK_v, Z.oK_l, Z.r_m1, Z.m1_o, Z.r_m2, Z.m2_o, Z.m2_p, Z.r_mB, Z.mB_o, Z.r_nil, Z.r_cons, Z.cn_o, Z.cn_p, Z.a1_s, Z.a2_s, Z.pu_nil, Z.pu_cons, Z.puK_s, Z.r_tup, Z.r_lst, Z.tp_s, Z.lt_s, Z.okLen_if, Z.r_fz, Z.fz_d, Z.fz_f, Z.fz_s, Z.fz_r, Z.fzR_l, Z.fzR_f, Z.r_T, Z.t_o, Z.tL_b, Z.r_not, Z.nt_o, Z.r_and, Z.r_or, Z.an_t, Z.an_f, Z.or_t, Z.or_f, Z.r_seq, Z.sq_n, Z.sq_r, Z.sq_b, Z.sq_c, Z.r_drop, Z.dr_o, Z.r_ret, Z.rt_o, Z.r_retN, Z.r_if, Z.if_o, Z.if_t', Z.if_f', Z.r_skip, Z.r_bk, Z.r_ct, Z.r_set, Z.st_o, Z.r_asg, Z.as_o, Z.as_p, Z.g_nm, Z.g_tp, Z.g_nil, Z.g_cons, Z.gc_o, Z.r_par, Z.pr_o, Z.pr_p, Z.sA_nil, Z.sA_cons, Z.r_fnM, Z.fn_n, Z.fn_d, Z.fn_r, Z.fr_l, Z.fr_f, Z.fr_i, Z.r_call, Z.cl_o, Z.r_callV, Z.cv_s, Z.in_r, Z.in_s, Z.r_fld, Z.fd_o, Z.fd_p, Z.fd_q, Z.r_setF, Z.sf_o, Z.sf_p, Z.sf_q, Z.r_meth, Z.mt_o, Z.mt_p, Z.mt_q, Z.r_make, Z.mk_o, Z.mk_p, Z.r_mt, Z.mm_o, Z.mm_p, Z.mm_q, Z.mm_r, Z.mm_s, Z.f_app, Z.f_ext, Z.ex_s, Z.f_popAt, Z.r_setIx, Z.si_o, Z.si_p, Z.si_q, Z.si_r, Z.sl_s, Z.r_augIx, Z.ai_o, Z.ai_p, Z.ai_q, Z.ai_r, Z.ai_s, Z.r_getL, Z.gl_s, Z.ip_add, Z.ip_sub, Z.r_aug, Z.ag_o, Z.ag_p, Z.ag_q, Z.r_ifE, Z.i_t, Z.i_f, Z.i_o, Z.r_andV, Z.av_o, Z.av_t, Z.av_f, Z.onB_K, Z.oBK_s, Z.r_chain, Z.ch_a, Z.ch_b, Z.ch_t, Z.ch_f, Z.ch_d, Z.ch_e, Z.r_chain3, Z.c3_a, Z.c3_b, Z.c3_t, Z.c3_f, Z.c3_d, Z.r_sl, Z.sl_a, Z.sl_b, Z.sl_c, Z.pt_n, Z.pt_s, Z.pt_o, Z.pt_i, Z.gs_d, Z.gs_r, Z.gs_s, Z.gSl_l, Z.gSl_t, Z.r_it, Z.it_l, Z.it_t, Z.r_enum, Z.en_l, Z.en_t, Z.r_rng1, Z.r_rng2, Z.r1_o, Z.r2_o, Z.r_for, Z.fo_o, Z.bd_o, Z.for_nil, Z.fl_n, Z.fl_c, Z.fl_b, Z.fl_r, Z.wc_t, Z.wc_f, Z.wb_n, Z.wb_r, Z.lc_nil, Z.lc_z, Z.lc_t, Z.lc_f, Z.lc_b, Z.lc_c, Z.r_lc, Z.lm_o, Z.lm_p, Z.gAdd_ii, Z.gAdd_ll, Z.gAdd_tt, Z.gSub_ii, Z.gMul_ii, Z.gDiv_ii, Z.gMod_ii, Z.gPow_ii, Z.gNeg_i, Z.bV_s, Z.gIx_l, Z.gIx_t, Z.gLen_l, Z.gLen_t, Z.gTup_l, Z.gTup_t, Z.gLst_l, Z.gLst_t, Z.gInt_i, Z.gInt_b, Z.gAbs_i, Z.gNot_b, Z.gZip_tt, Z.gZip_ll, Z.gAll_l, Z.gAny_l, Z.gSum_l, Z.gLRg1, Z.atI_0, Z.atI_1, Z.atI_2, Z.atI_3, Z.gS0, Z.gSj, Z.tS0, Z.tSj, Z.sS0, Z.sSj, Z.tSe, Z.r_lc2, Z.l2_o, Z.tL_l, Z.tL_t, Z.tL_i, Z.blsOf_true, Z.all_true, gEq_ii, gNe_ii, gEq_bb, gNe_bb, gLt_ii, gLe_ii, gGt_ii, gGe_ii, sub_sub_drop, HT.sIx_none, take_self, take_set, len_set, set_set, r_setL, putD, ixN]
    · simp [Z.r_var, Z.r_varK, Z.r_C, Z.r_fn, Z.r_yes, Z.rd_d, Z.rd_r, Z.rdK_l, Z.rdK_f, Z.r_on1, Z.r_on2, Z.o1_s, Z.o2_s, Z.r_outN, Z.oK_v, Z.oK_l, Z.r_m1, Z.m1_o, Z.r_m2, Z.m2_o, Z.m2_p, Z.r_mB, Z.mB_o, Z.r_nil, Z.r_cons, Z.cn_o, Z.cn_p, Z.a1_s, Z.a2_s, Z.pu_nil, Z.pu_cons, Z.puK_s, Z.r_tup, Z.r_lst, Z.tp_s, Z.lt_s, Z.okLen_if, Z.r_fz, Z.fz_d, Z.fz_f, Z.fz_s, Z.fz_r, Z.fzR_l, Z.fzR_f, Z.r_T, Z.t_o, Z.tL_b, Z.r_not, Z.nt_o, Z.r_and, Z.r_or, Z.an_t, Z.an_f, Z.or_t, Z.or_f, Z.r_seq, Z.sq_n, Z.sq_r, Z.sq_b, Z.sq_c, Z.r_drop, Z.dr_o, Z.r_ret, Z.rt_o, Z.r_retN, Z.r_if, Z.if_o, Z.if_t', Z.if_f', Z.r_skip, Z.r_bk, Z.r_ct, Z.r_set, Z.st_o, Z.r_asg, Z.as_o, Z.as_p, Z.g_nm, Z.g_tp, Z.g_nil, Z.g_cons, Z.gc_o, Z.r_par, Z.pr_o, Z.pr_p, Z.sA_nil, Z.sA_cons, Z.r_fnM, Z.fn_n, Z.fn_d, Z.fn_r, Z.fr_l, Z.fr_f, Z.fr_i, Z.r_call, Z.cl_o, Z.r_callV, Z.cv_s, Z.in_r, Z.in_s, Z.r_fld, Z.fd_o, Z.fd_p, Z.fd_q, Z.r_setF, Z.sf_o, Z.sf_p, Z.sf_q, Z.r_meth, Z.mt_o, Z.mt_p, Z.mt_q, Z.r_make, Z.mk_o, Z.mk_p, Z.r_mt, Z.mm_o, Z.mm_p, Z.mm_q, Z.mm_r, Z.mm_s, Z.f_app, Z.f_ext, Z.ex_s, Z.f_popAt, Z.r_setIx, Z.si_o, Z.si_p, Z.si_q, Z.si_r, Z.sl_s, Z.r_augIx, Z.ai_o, Z.ai_p, Z.ai_q, Z.ai_r, Z.ai_s, Z.r_getL, Z.gl_s, Z.ip_add, Z.ip_sub, Z.r_aug, Z.ag_o, Z.ag_p, Z.ag_q, Z.r_ifE, Z.i_t, Z.i_f, Z.i_o, Z.r_andV, Z.av_o, Z.av_t, Z.av_f, Z.onB_K, Z.oBK_s, Z.r_chain, Z.ch_a, Z.ch_b, Z.ch_t, Z.ch_f, Z.ch_d, Z.ch_e, Z.r_chain3, Z.c3_a, Z.c3_b, Z.c3_t, Z.c3_f, Z.c3_d, Z.r_sl, Z.sl_a, Z.sl_b, Z.sl_c, Z.pt_n, Z.pt_s, Z.pt_o, Z.pt_i, Z.gs_d, Z.gs_r, Z.gs_s, Z.gSl_l, Z.gSl_t, Z.r_it, Z.it_l, Z.it_t, Z.r_enum, Z.en_l, Z.en_t, Z.r_rng1, Z.r_rng2, Z.r1_o, Z.r2_o, Z.r_for, Z.fo_o, Z.bd_o, Z.for_nil, Z.fl_n, Z.fl_c, Z.fl_b, Z.fl_r, Z.wc_t, Z.wc_f, Z.wb_n, Z.wb_r, Z.lc_nil, Z.lc_z, Z.lc_t, Z.lc_f, Z.lc_b, Z.lc_c, Z.r_lc, Z.lm_o, Z.lm_p, Z.gAdd_ii, Z.gAdd_ll, Z.gAdd_tt, Z.gSub_ii, Z.gMul_ii, Z.gDiv_ii, Z.gMod_ii, Z.gPow_ii, Z.gNeg_i, Z.bV_s, Z.gIx_l, Z.gIx_t, Z.gLen_l, Z.gLen_t, Z.gTup_l, Z.gTup_t, Z.gLst_l, Z.gLst_t, Z.gInt_i, Z.gInt_b, Z.gAbs_i, Z.gNot_b, Z.gZip_tt, Z.gZip_ll, Z.gAll_l, Z.gAny_l, Z.gSum_l, Z.gLRg1, Z.atI_0, Z.atI_1, Z.atI_2, Z.atI_3, Z.gS0, Z.gSj, Z.tS0, Z.tSj, Z.sS0, Z.sSj, Z.tSe, Z.r_lc2, Z.l2_o, Z.tL_l, Z.tL_t, Z.tL_i, Z.blsOf_true, Z.all_true, gEq_ii, gNe_ii, gEq_bb, gNe_bb, gLt_ii, gLe_ii, gGt_ii, gGe_ii, sub_sub_drop, HT.sIx_none, take_self, take_set, len_set, set_set, r_setL, putD, ixN]
      rfl
theorem law_couples_ok {S : Sto} {n : Int} (h0 : 0 ≤ n) (h1 : n ≤ 10) : p__law_couples [.d (.int n)] S = .ok (.r S.length) (S ++ [.lst (cpl n)]) := by
  unfold p__law_couples
  simp [m__law_couples, Z.r_var, Z.r_varK, Z.r_C, Z.r_fn, Z.r_yes, Z.rd_d, Z.rd_r, Z.rdK_l, Z.rdK_f, Z.r_on1, Z.r_on2, Z.o1_s, Z.o2_s, Z.r_outN, Z.oK_v, Z.oK_l, Z.r_m1, Z.m1_o, Z.r_m2, Z.m2_o, Z.m2_p, Z.r_mB, Z.mB_o, Z.r_nil, Z.r_cons, Z.cn_o, Z.cn_p, Z.a1_s, Z.a2_s, Z.pu_nil, Z.pu_cons, Z.puK_s, Z.r_tup, Z.r_lst, Z.tp_s, Z.lt_s, Z.okLen_if, Z.r_fz, Z.fz_d, Z.fz_f, Z.fz_s, Z.fz_r, Z.fzR_l, Z.fzR_f, Z.r_T, Z.t_o, Z.tL_b, Z.r_not, Z.nt_o, Z.r_and, Z.r_or, Z.an_t, Z.an_f, Z.or_t, Z.or_f, Z.r_seq, Z.sq_n, Z.sq_r, Z.sq_b, Z.sq_c, Z.r_drop, Z.dr_o, Z.r_ret, Z.rt_o, Z.r_retN, Z.r_if, Z.if_o, Z.if_t', Z.if_f', Z.r_skip, Z.r_bk, Z.r_ct, Z.r_set, Z.st_o, Z.r_asg, Z.as_o, Z.as_p, Z.g_nm, Z.g_tp, Z.g_nil, Z.g_cons, Z.gc_o, Z.r_par, Z.pr_o, Z.pr_p, Z.sA_nil, Z.sA_cons, Z.r_fnM, Z.fn_n, Z.fn_d, Z.fn_r, Z.fr_l, Z.fr_f, Z.fr_i, Z.r_call, Z.cl_o, Z.r_callV, Z.cv_s, Z.in_r, Z.in_s, Z.r_fld, Z.fd_o, Z.fd_p, Z.fd_q, Z.r_setF, Z.sf_o, Z.sf_p, Z.sf_q, Z.r_meth, Z.mt_o, Z.mt_p, Z.mt_q, Z.r_make, Z.mk_o, Z.mk_p, Z.r_mt, Z.mm_o, Z.mm_p, Z.mm_q, Z.mm_r, Z.mm_s, Z.f_app, Z.f_ext, Z.ex_s, Z.f_popAt, Z.r_setIx, Z.si_o, Z.si_p, Z.si_q, Z.si_r, Z.sl_s, Z.r_augIx, Z.ai_o, Z.ai_p, Z.ai_q, Z.ai_r, Z.ai_s, Z.r_getL, Z.gl_s, Z.ip_add, Z.ip_sub, Z.r_aug, Z.ag_o, Z.ag_p, Z.ag_q, Z.r_ifE, Z.i_t, Z.i_f, Z.i_o, Z.r_andV, Z.av_o, Z.av_t, Z.av_f, Z.onB_K, Z.oBK_s, Z.r_chain, Z.ch_a, Z.ch_b, Z.ch_t, Z.ch_f, Z.ch_d, Z.ch_e, Z.r_chain3, Z.c3_a, Z.c3_b, Z.c3_t, Z.c3_f, Z.c3_d, Z.r_sl, Z.sl_a, Z.sl_b, Z.sl_c, Z.pt_n, Z.pt_s, Z.pt_o, Z.pt_i, Z.gs_d, Z.gs_r, Z.gs_s, Z.gSl_l, Z.gSl_t, Z.r_it, Z.it_l, Z.it_t, Z.r_enum, Z.en_l, Z.en_t, Z.r_rng1, Z.r_rng2, Z.r1_o, Z.r2_o, Z.r_for, Z.fo_o, Z.bd_o, Z.for_nil, Z.fl_n, Z.fl_c, Z.fl_b, Z.fl_r, Z.wc_t, Z.wc_f, Z.wb_n, Z.wb_r, Z.lc_nil, Z.lc_z, Z.lc_t, Z.lc_f, Z.lc_b, Z.lc_c, Z.r_lc, Z.lm_o, Z.lm_p, Z.gAdd_ii, Z.gAdd_ll, Z.gAdd_tt, Z.gSub_ii, Z.gMul_ii, Z.gDiv_ii, Z.gMod_ii, Z.gPow_ii, Z.gNeg_i, Z.bV_s, Z.gIx_l, Z.gIx_t, Z.gLen_l, Z.gLen_t, Z.gTup_l, Z.gTup_t, Z.gLst_l, Z.gLst_t, Z.gInt_i, Z.gInt_b, Z.gAbs_i, Z.gNot_b, Z.gZip_tt, Z.gZip_ll, Z.gAll_l, Z.gAny_l, Z.gSum_l, Z.gLRg1, Z.atI_0, Z.atI_1, Z.atI_2, Z.atI_3, Z.gS0, Z.gSj, Z.tS0, Z.tSj, Z.sS0, Z.sSj, Z.tSe, Z.r_lc2, Z.l2_o, Z.tL_l, Z.tL_t, Z.tL_i, Z.blsOf_true, Z.all_true, gEq_ii, gNe_ii, gEq_bb, gNe_bb, gLt_ii, gLe_ii, gGt_ii, gGe_ii, sub_sub_drop, HT.sIx_none, take_self, take_set, len_set, set_set, r_setL, putD, ixN, sm62 (show -1000000000 ≤ n by omega) (by omega)]
  refine for_then (fun o => fnK S.length (sqK _ o)) (fun r s E S' => ∃ a, E = [some (.d (.int n)), some (.r S.length), a, none] ∧ S' = S ++ [.lst s] ∧ s.length + r * 10 ≤ 1000)
    (fun s d => s ++ (cps1 n d).map (pairD d)) [] ?_ ?_ ?_
  · exact ⟨none, rfl, rfl, by rw [rgD_len]; simp; omega⟩
  · rintro r s d E S' hd ⟨a, rfl, rfl, hr⟩
    obtain ⟨i, rfl, i0, i1⟩ := mem_rgD hd
    have hl : (cps1 n (.int i)).length ≤ 10 := by
      unfold cps1
      rw [rgD_len]
      simp only [intD]
      omega
    refine ⟨[some (.d (.int n)), some (.r S.length), some (.d (.int i)), none], S ++ [.lst (s ++ (cps1 n (.int i)).map (pairD (.int i)))], .inl ?_, ?_⟩
    · simp [Z.r_var, Z.r_varK, Z.r_C, Z.r_fn, Z.r_yes, Z.rd_d, Z.rd_r, Z.rdK_l, Z.rdK_f, Z.r_on1, Z.r_on2, Z.o1_s, Z.o2_s, Z.r_outN, Z.oK_v, Z.oK_l, Z.r_m1, Z.m1_o, Z.r_m2, Z.m2_o, Z.m2_p, Z.r_mB, Z.mB_o, Z.r_nil, Z.r_cons, Z.cn_o, Z.cn_p, Z.a1_s, Z.a2_s, Z.pu_nil, Z.pu_cons, Z.puK_s, Z.r_tup, Z.r_lst, Z.tp_s, Z.lt_s, Z.okLen_if, Z.r_fz, Z.fz_d, Z.fz_f, Z.fz_s, Z.fz_r, Z.fzR_l, Z.fzR_f, Z.r_T, Z.t_o, Z.tL_b, Z.r_not, Z.nt_o, Z.r_and, Z.r_or, Z.an_t, Z.an_f, Z.or_t, Z.or_f, Z.r_seq, Z.sq_n, Z.sq_r, Z.sq_b, Z.sq_c, Z.r_drop, Z.dr_o, Z.r_ret, Z.rt_o, Z.r_retN, Z.r_if, Z.if_o, Z.if_t', Z.if_f', Z.r_skip, Z.r_bk, Z.r_ct, Z.r_set, Z.st_o, Z.r_asg, Z.as_o, Z.as_p, Z.g_nm, Z.g_tp, Z.g_nil, Z.g_cons, Z.gc_o, Z.r_par, Z.pr_o, Z.pr_p, Z.sA_nil, Z.sA_cons, Z.r_fnM, Z.fn_n, Z.fn_d, Z.fn_r, Z.fr_l, Z.fr_f, Z.fr_i, Z.r_call, Z.cl_o, Z.r_callV, Z.cv_s, Z.in_r, Z.in_s, Z.r_fld, Z.fd_o, Z.fd_p, Z.fd_q, Z.r_setF, Z.sf_o, Z.sf_p, Z.sf_q, Z.r_meth, Z.mt_o, Z.mt_p, Z.mt_q, Z.r_make, Z.mk_o, Z.mk_p, Z.r_mt, Z.mm_o, Z.mm_p, Z.mm_q, Z.mm_r, Z.mm_s, Z.f_app, Z.f_ext, Z.ex_s, Z.f_popAt, Z.r_setIx, Z.si_o, Z.si_p, Z.si_q, Z.si_r, Z.sl_s, Z.r_augIx, Z.ai_o, Z.ai_p, Z.ai_q, Z.ai_r, Z.ai_s, Z.r_getL, Z.gl_s, Z.ip_add, Z.ip_sub, Z.r_aug, Z.ag_o, Z.ag_p, Z.ag_q, Z.r_ifE, Z.i_t, Z.i_f, Z.i_o, Z.r_andV, Z.av_o, Z.av_t, Z.av_f, Z.onB_K, Z.oBK_s, Z.r_chain, Z.ch_a, Z.ch_b, Z.ch_t, Z.ch_f, Z.ch_d, Z.ch_e, Z.r_chain3, Z.c3_a, Z.c3_b, Z.c3_t, Z.c3_f, Z.c3_d, Z.r_sl, Z.sl_a, Z.sl_b, Z.sl_c, Z.pt_n, Z.pt_s, Z.pt_o, Z.pt_i, Z.gs_d, Z.gs_r, Z.gs_s, Z.gSl_l, Z.gSl_t, Z.r_it, Z.it_l, Z.it_t, Z.r_enum, Z.en_l, Z.en_t, Z.r_rng1, Z.r_rng2, Z.r1_o, Z.r2_o, Z.r_for, Z.fo_o, Z.bd_o, Z.for_nil, Z.fl_n, Z.fl_c, Z.fl_b, Z.fl_r, Z.wc_t, Z.wc_f, Z.wb_n, Z.wb_r, Z.lc_nil, Z.lc_z, Z.lc_t, Z.lc_f, Z.lc_b, Z.lc_c, Z.r_lc, Z.lm_o, Z.lm_p, Z.gAdd_ii, Z.gAdd_ll, Z.gAdd_tt, Z.gSub_ii, Z.gMul_ii, Z.gDiv_ii, Z.gMod_ii, Z.gPow_ii, Z.gNeg_i, Z.bV_s, Z.gIx_l, Z.gIx_t, Z.gLen_l, Z.gLen_t, Z.gTup_l, Z.gTup_t, Z.gLst_l, Z.gLst_t, Z.gInt_i, Z.gInt_b, Z.gAbs_i, Z.gNot_b, Z.gZip_tt, Z.gZip_ll, Z.gAll_l, Z.gAny_l, Z.gSum_l, Z.gLRg1, Z.atI_0, Z.atI_1, Z.atI_2, Z.atI_3, Z.gS0, Z.gSj, Z.tS0, Z.tSj, Z.sS0, Z.sSj, Z.tSe, Z.r_lc2, Z.l2_o, Z.tL_l, Z.tL_t, Z.tL_i, Z.blsOf_true, Z.all_true, gEq_ii, gNe_ii, gEq_bb, gNe_bb, gLt_ii, gLe_ii, gGt_ii, gGe_ii, sub_sub_drop, HT.sIx_none, take_self, take_set, len_set, set_set, r_setL, putD, ixN, sm62 (show -1000000000 ≤ n by omega) (by omega), sm62 (show -1000000000 ≤ i + 1 by omega) (by omega), wipeE]
      refine lc_mapT (fun o => drK _ _ (mmL _ _ _ (cnK _ _ (lmL _ o)))) (S ++ [.lst s]) (pairD (.int i)) (by simp) (by simp) (by rw [rgD_len]; omega) ?_ ?_
      · intro e he acc
        refine ⟨[some (.d (.int n)), some (.r S.length), some (.d (.int i)), some (.d e)], ?_, ?_, ?_⟩ <;> simp [Z.r_var, Z.r_varK, Z.r_C, Z.r_fn, Z.r_yes, Z.rd_d, Z.rd_r, Z.rdK_l, Z.rdK_f, Z.r_on1, Z.r_on2, Z.o1_s, Z.o2_s, Z.r_outN, Z.oK_v, Z.oK_l, Z.r_m1, Z.m1_o, Z.r_m2, Z.m2_o, Z.m2_p, Z.r_mB, Z.mB_o, Z.r_nil, Z.r_cons, Z.cn_o, Z.cn_p, Z.a1_s, Z.a2_s, Z.pu_nil, Z.pu_cons, Z.puK_s, Z.r_tup, Z.r_lst, Z.tp_s, Z.lt_s, Z.okLen_if, Z.r_fz, Z.fz_d, Z.fz_f, Z.fz_s, Z.fz_r, Z.fzR_l, Z.fzR_f, Z.r_T, Z.t_o, Z.tL_b, Z.r_not, Z.nt_o, Z.r_and, Z.r_or, Z.an_t, Z.an_f, Z.or_t, Z.or_f, Z.r_seq, Z.sq_n, Z.sq_r, Z.sq_b, Z.sq_c, Z.r_drop, Z.dr_o, Z.r_ret, Z.rt_o, Z.r_retN, Z.r_if, Z.if_o, Z.if_t', Z.if_f', Z.r_skip, Z.r_bk, Z.r_ct, Z.r_set, Z.st_o, Z.r_asg, Z.as_o, Z.as_p, Z.g_nm, Z.g_tp, Z.g_nil, Z.g_cons, Z.gc_o, Z.r_par, Z.pr_o, Z.pr_p, Z.sA_nil, Z.sA_cons, Z.r_fnM, Z.fn_n, Z.fn_d, Z.fn_r, Z.fr_l, Z.fr_f, Z.fr_i, Z.r_call, Z.cl_o, Z.r_callV, Z.cv_s, Z.in_r, Z.in_s, Z.r_fld, Z.fd_o, Z.fd_p, Z.fd_q, Z.r_setF, Z.sf_o, Z.sf_p, Z.sf_q, Z.r_meth, Z.mt_o, Z.mt_p, Z.mt_q, Z.r_make, Z.mk_o, Z.mk_p, Z.r_mt, Z.mm_o, Z.mm_p, Z.mm_q, Z.mm_r, Z.mm_s, Z.f_app, Z.f_ext, Z.ex_s, Z.f_popAt, Z.r_setIx, Z.si_o, Z.si_p, Z.si_q, Z.si_r, Z.sl_s, Z.r_augIx, Z.ai_o, Z.ai_p, Z.ai_q, Z.ai_r, Z.ai_s, Z.r_getL, Z.gl_s, Z.ip_add, Z.ip_sub, Z.r_aug, Z.ag_o, Z.ag_p, Z.ag_q, Z.r_ifE, Z.i_t, Z.i_f, Z.i_o, Z.r_andV, Z.av_o, Z.av_t, Z.av_f, Z.onB_K, Z.oBK_s, Z.r_chain, Z.ch_a, Z.ch_b, Z.ch_t, Z.ch_f, Z.ch_d, Z.ch_e, Z.r_chain3, Z.c3_a, Z.c3_b, Z.c3_t, Z.c3_f, Z.c3_d, Z.r_sl, Z.sl_a, Z.sl_b, Z.sl_c, Z.pt_n, Z.pt_s, Z.pt_o, Z.pt_i, Z.gs_d, Z.gs_r, Z.gs_s, Z.gSl_l, Z.gSl_t, Z.r_it, Z.it_l, Z.it_t, Z.r_enum, Z.en_l, Z.en_t, Z.r_rng1, Z.r_rng2, Z.r1_o, Z.r2_o, Z.r_for, Z.fo_o, Z.bd_o, Z.for_nil, Z.fl_n, Z.fl_c, Z.fl_b, Z.fl_r, Z.wc_t, Z.wc_f, Z.wb_n, Z.wb_r, Z.lc_nil, Z.lc_z, Z.lc_t, Z.lc_f, Z.lc_b, Z.lc_c, Z.r_lc, Z.lm_o, Z.lm_p, Z.gAdd_ii, Z.gAdd_ll, Z.gAdd_tt, Z.gSub_ii, Z.gMul_ii, Z.gDiv_ii, Z.gMod_ii, Z.gPow_ii, Z.gNeg_i, Z.bV_s, Z.gIx_l, Z.gIx_t, Z.gLen_l, Z.gLen_t, Z.gTup_l, Z.gTup_t, Z.gLst_l, Z.gLst_t, Z.gInt_i, Z.gInt_b, Z.gAbs_i, Z.gNot_b, Z.gZip_tt, Z.gZip_ll, Z.gAll_l, Z.gAny_l, Z.gSum_l, Z.gLRg1, Z.atI_0, Z.atI_1, Z.atI_2, Z.atI_3, Z.gS0, Z.gSj, Z.tS0, Z.tSj, Z.sS0, Z.sSj, Z.tSe, Z.r_lc2, Z.l2_o, Z.tL_l, Z.tL_t, Z.tL_i, Z.blsOf_true, Z.all_true, gEq_ii, gNe_ii, gEq_bb, gNe_bb, gLt_ii, gLe_ii, gGt_ii, gGe_ii, sub_sub_drop, HT.sIx_none, take_self, take_set, len_set, set_set, r_setL, putD, ixN, pairD]
      · have hx : s.length + (n - (i + 1)).toNat ≤ 16777216 := by omega
        simp [Z.r_var, Z.r_varK, Z.r_C, Z.r_fn, Z.r_yes, Z.rd_d, Z.rd_r, Z.rdK_l, Z.rdK_f, Z.r_on1, Z.r_on2, Z.o1_s, Z.o2_s, Z.r_outN, Z.oK_v, Z.oK_l, Z.r_m1, Z.m1_o, Z.r_m2, Z.m2_o, Z.m2_p, Z.r_mB, Z.mB_o, Z.r_nil, Z.r_cons, Z.cn_o, Z.cn_p, Z.a1_s, Z.a2_s, Z.pu_nil, Z.pu_cons, Z.puK_s, Z.r_tup, Z.r_lst, Z.tp_s, Z.lt_s, Z.okLen_if, Z.r_fz, Z.fz_d, Z.fz_f, Z.fz_s, Z.fz_r, Z.fzR_l, Z.fzR_f, Z.r_T, Z.t_o, Z.tL_b, Z.r_not, Z.nt_o, Z.r_and, Z.r_or, Z.an_t, Z.an_f, Z.or_t, Z.or_f, Z.r_seq, Z.sq_n, Z.sq_r, Z.sq_b, Z.sq_c, Z.r_drop, Z.dr_o, Z.r_ret, Z.rt_o, Z.r_retN, Z.r_if, Z.if_o, Z.if_t', Z.if_f', Z.r_skip, Z.r_bk, Z.r_ct, Z.r_set, Z.st_o, Z.r_asg, Z.as_o, Z.as_p, Z.g_nm, Z.g_tp, Z.g_nil, Z.g_cons, Z.gc_o, Z.r_par, Z.pr_o, Z.pr_p, Z.sA_nil, Z.sA_cons, Z.r_fnM, Z.fn_n, Z.fn_d, Z.fn_r, Z.fr_l, Z.fr_f, Z.fr_i, Z.r_call, Z.cl_o, Z.r_callV, Z.cv_s, Z.in_r, Z.in_s, Z.r_fld, Z.fd_o, Z.fd_p, Z.fd_q, Z.r_setF, Z.sf_o, Z.sf_p, Z.sf_q, Z.r_meth, Z.mt_o, Z.mt_p, Z.mt_q, Z.r_make, Z.mk_o, Z.mk_p, Z.r_mt, Z.mm_o, Z.mm_p, Z.mm_q, Z.mm_r, Z.mm_s, Z.f_app, Z.f_ext, Z.ex_s, Z.f_popAt, Z.r_setIx, Z.si_o, Z.si_p, Z.si_q, Z.si_r, Z.sl_s, Z.r_augIx, Z.ai_o, Z.ai_p, Z.ai_q, Z.ai_r, Z.ai_s, Z.r_getL, Z.gl_s, Z.ip_add, Z.ip_sub, Z.r_aug, Z.ag_o, Z.ag_p, Z.ag_q, Z.r_ifE, Z.i_t, Z.i_f, Z.i_o, Z.r_andV, Z.av_o, Z.av_t, Z.av_f, Z.onB_K, Z.oBK_s, Z.r_chain, Z.ch_a, Z.ch_b, Z.ch_t, Z.ch_f, Z.ch_d, Z.ch_e, Z.r_chain3, Z.c3_a, Z.c3_b, Z.c3_t, Z.c3_f, Z.c3_d, Z.r_sl, Z.sl_a, Z.sl_b, Z.sl_c, Z.pt_n, Z.pt_s, Z.pt_o, Z.pt_i, Z.gs_d, Z.gs_r, Z.gs_s, Z.gSl_l, Z.gSl_t, Z.r_it, Z.it_l, Z.it_t, Z.r_enum, Z.en_l, Z.en_t, Z.r_rng1, Z.r_rng2, Z.r1_o, Z.r2_o, Z.r_for, Z.fo_o, Z.bd_o, Z.for_nil, Z.fl_n, Z.fl_c, Z.fl_b, Z.fl_r, Z.wc_t, Z.wc_f, Z.wb_n, Z.wb_r, Z.lc_nil, Z.lc_z, Z.lc_t, Z.lc_f, Z.lc_b, Z.lc_c, Z.r_lc, Z.lm_o, Z.lm_p, Z.gAdd_ii, Z.gAdd_ll, Z.gAdd_tt, Z.gSub_ii, Z.gMul_ii, Z.gDiv_ii, Z.gMod_ii, Z.gPow_ii, Z.gNeg_i, Z.bV_s, Z.gIx_l, Z.gIx_t, Z.gLen_l, Z.gLen_t, Z.gTup_l, Z.gTup_t, Z.gLst_l, Z.gLst_t, Z.gInt_i, Z.gInt_b, Z.gAbs_i, Z.gNot_b, Z.gZip_tt, Z.gZip_ll, Z.gAll_l, Z.gAny_l, Z.gSum_l, Z.gLRg1, Z.atI_0, Z.atI_1, Z.atI_2, Z.atI_3, Z.gS0, Z.gSj, Z.tS0, Z.tSj, Z.sS0, Z.sSj, Z.tSe, Z.r_lc2, Z.l2_o, Z.tL_l, Z.tL_t, Z.tL_i, Z.blsOf_true, Z.all_true, gEq_ii, gNe_ii, gEq_bb, gNe_bb, gLt_ii, gLe_ii, gGt_ii, gGe_ii, sub_sub_drop, HT.sIx_none, take_self, take_set, len_set, set_set, r_setL, putD, ixN, rgD_len, hx, cps1, intD]
    · exact ⟨_, rfl, rfl, by simp; omega⟩
  · rintro E' S' ⟨a, rfl, rfl, _⟩
    simp [Z.r_var, Z.r_varK, Z.r_C, Z.r_fn, Z.r_yes, Z.rd_d, Z.rd_r, Z.rdK_l, Z.rdK_f, Z.r_on1, Z.r_on2, Z.o1_s, Z.o2_s, Z.r_outN, Z.oK_v, Z.oK_l, Z.r_m1, Z.m1_o, Z.r_m2, Z.m2_o, Z.m2_p, Z.r_mB, Z.mB_o, Z.r_nil, Z.r_cons, Z.cn_o, Z.cn_p, Z.a1_s, Z.a2_s, Z.pu_nil, Z.pu_cons, Z.puK_s, Z.r_tup, Z.r_lst, Z.tp_s, Z.lt_s, Z.okLen_if, Z.r_fz, Z.fz_d, Z.fz_f, Z.fz_s, Z.fz_r, Z.fzR_l, Z.fzR_f, Z.r_T, Z.t_o, Z.tL_b, Z.r_not, Z.nt_o, Z.r_and, Z.r_or, Z.an_t, Z.an_f, Z.or_t, Z.or_f, Z.r_seq, Z.sq_n, Z.sq_r, Z.sq_b, Z.sq_c, Z.r_drop, Z.dr_o, Z.r_ret, Z.rt_o, Z.r_retN, Z.r_if, Z.if_o, Z.if_t', Z.if_f', Z.r_skip, Z.r_bk, Z.r_ct, Z.r_set, Z.st_o, Z.r_asg, Z.as_o, Z.as_p, Z.g_nm, Z.g_tp, Z.g_nil, Z.g_cons, Z.gc_o, Z.r_par, Z.pr_o, Z.pr_p, Z.sA_nil, Z.sA_cons, Z.r_fnM, Z.fn_n, Z.fn_d, Z.fn_r, Z.fr_l, Z.fr_f, Z.fr_i, Z.r_call, Z.cl_o, Z.r_callV, Z.cv_s, Z.in_r, Z.in_s, Z.r_fld, Z.fd_o, Z.fd_p, Z.fd_q, Z.r_setF, Z.sf_o, Z.sf_p, Z.sf_q, Z.r_meth, Z.mt_o, Z.mt_p, Z.mt_q, Z.r_make, Z.mk_o, Z.mk_p, Z.r_mt, Z.mm_o, Z.mm_p, Z.mm_q, Z.mm_r, Z.mm_s, Z.f_app, Z.f_ext, Z.ex_s, Z.f_popAt, Z.r_setIx, Z.si_o, Z.si_p, Z.si_q, Z.si_r, Z.sl_s, Z.r_augIx, Z.ai_o, Z.ai_p, Z.ai_q, Z.ai_r, Z.ai_s, Z.r_getL, Z.gl_s, Z.ip_add, Z.ip_sub, Z.r_aug, Z.ag_o, Z.ag_p, Z.ag_q, Z.r_ifE, Z.i_t, Z.i_f, Z.i_o, Z.r_andV, Z.av_o, Z.av_t, Z.av_f, Z.onB_K, Z.oBK_s, Z.r_chain, Z.ch_a, Z.ch_b, Z.ch_t, Z.ch_f, Z.ch_d, Z.ch_e, Z.r_chain3, Z.c3_a, Z.c3_b, Z.c3_t, Z.c3_f, Z.c3_d, Z.r_sl, Z.sl_a, Z.sl_b, Z.sl_c, Z.pt_n, Z.pt_s, Z.pt_o, Z.pt_i, Z.gs_d, Z.gs_r, Z.gs_s, Z.gSl_l, Z.gSl_t, Z.r_it, Z.it_l, Z.it_t, Z.r_enum, Z.en_l, Z.en_t, Z.r_rng1, Z.r_rng2, Z.r1_o, Z.r2_o, Z.r_for, Z.fo_o, Z.bd_o, Z.for_nil, Z.fl_n, Z.fl_c, Z.fl_b, Z.fl_r, Z.wc_t, Z.wc_f, Z.wb_n, Z.wb_r, Z.lc_nil, Z.lc_z, Z.lc_t, Z.lc_f, Z.lc_b, Z.lc_c, Z.r_lc, Z.lm_o, Z.lm_p, Z.gAdd_ii, Z.gAdd_ll, Z.gAdd_tt, Z.gSub_ii, Z.gMul_ii, Z.gDiv_ii, Z.gMod_ii, Z.gPow_ii, Z.gNeg_i, Z.bV_s, Z.gIx_l, Z.gIx_t, Z.gLen_l, Z.gLen_t, Z.gTup_l, Z.gTup_t, Z.gLst_l, Z.gLst_t, Z.gInt_i, Z.gInt_b, Z.gAbs_i, Z.gNot_b, Z.gZip_tt, Z.gZip_ll, Z.gAll_l, Z.gAny_l, Z.gSum_l, Z.gLRg1, Z.atI_0, Z.atI_1, Z.atI_2, Z.atI_3, Z.gS0, Z.gSj, Z.tS0, Z.tSj, Z.sS0, Z.sSj, Z.tSe, Z.r_lc2, Z.l2_o, Z.tL_l, Z.tL_t, Z.tL_i, Z.blsOf_true, Z.all_true, gEq_ii, gNe_ii, gEq_bb, gNe_bb, gLt_ii, gLe_ii, gGt_ii, gGe_ii, sub_sub_drop, HT.sIx_none, take_self, take_set, len_set, set_set, r_setL, putD, ixN]
    rfl

/-! tables -/
def tblS (z : Int) (d : D) : Int × Option D := (nxt z, if dr (nxt z) 5 < 2 then some d else none)
def tbl (seed n : Int) : List D := (lcFold tblS (seed % 2147483647) (cpl n)).2
theorem drawn_table_ok {S : Sto} {seed n : Int} (h0 : 0 ≤ n) (h1 : n ≤ 10) : p_drawn_table [.d (.int seed), .d (.int n)] S = .ok (.d (.tuple [.int n, .tuple (tbl seed n)])) S := by
  unfold p_drawn_table
  simp [m_drawn_table, Z.r_var, Z.r_varK, Z.r_C, Z.r_fn, Z.r_yes, Z.rd_d, Z.rd_r, Z.rdK_l, Z.rdK_f, Z.r_on1, Z.r_on2, Z.o1_s, Z.o2_s, Z.r_outN, Z.oK_v, Z.oK_l, Z.r_m1, Z.m1_o, Z.r_m2, Z.m2_o, Z.m2_p, Z.r_mB, Z.mB_o, Z.r_nil, Z.r_cons, Z.cn_o, Z.cn_p, Z.a1_s, Z.a2_s, Z.pu_nil, Z.pu_cons, Z.puK_s, Z.r_tup, Z.r_lst, Z.tp_s, Z.lt_s, Z.okLen_if, Z.r_fz, Z.fz_d, Z.fz_f, Z.fz_s, Z.fz_r, Z.fzR_l, Z.fzR_f, Z.r_T, Z.t_o, Z.tL_b, Z.r_not, Z.nt_o, Z.r_and, Z.r_or, Z.an_t, Z.an_f, Z.or_t, Z.or_f, Z.r_seq, Z.sq_n, Z.sq_r, Z.sq_b, Z.sq_c, Z.r_drop, Z.dr_o, Z.r_ret, Z.rt_o, Z.r_retN, Z.r_if, Z.if_o, Z.if_t', Z.if_f', Z.r_skip, Z.r_bk, Z.r_ct, Z.r_set, Z.st_o, Z.r_asg, Z.as_o, Z.as_p, Z.g_nm, Z.g_tp, Z.g_nil, Z.g_cons, Z.gc_o, Z.r_par, Z.pr_o, Z.pr_p, Z.sA_nil, Z.sA_cons, Z.r_fnM, Z.fn_n, Z.fn_d, Z.fn_r, Z.fr_l, Z.fr_f, Z.fr_i, Z.r_call, Z.cl_o, Z.r_callV, Z.cv_s, Z.in_r, Z.in_s, Z.r_fld, Z.fd_o, Z.fd_p, Z.fd_q, Z.r_setF, Z.sf_o, Z.sf_p, Z.sf_q, Z.r_meth, Z.mt_o, Z.mt_p, Z.mt_q, Z.r_make, Z.mk_o, Z.mk_p, Z.r_mt, Z.mm_o, Z.mm_p, Z.mm_q, Z.mm_r, Z.mm_s, Z.f_app, Z.f_ext, Z.ex_s, Z.f_popAt, Z.r_setIx, Z.si_o, Z.si_p, Z.si_q, Z.si_r, Z.sl_s, Z.r_augIx, Z.ai_o, Z.ai_p, Z.ai_q, Z.ai_r, Z.ai_s, Z.r_getL, Z.gl_s, Z.ip_add, Z.ip_sub, Z.r_aug, Z.ag_o, Z.ag_p, Z.ag_q, Z.r_ifE, Z.i_t, Z.i_f, Z.i_o, Z.r_andV, Z.av_o, Z.av_t, Z.av_f, Z.onB_K, Z.oBK_s, Z.r_chain, Z.ch_a, Z.ch_b, Z.ch_t, Z.ch_f, Z.ch_d, Z.ch_e, Z.r_chain3, Z.c3_a, Z.c3_b, Z.c3_t, Z.c3_f, Z.c3_d, Z.r_sl, Z.sl_a, Z.sl_b, Z.sl_c, Z.pt_n, Z.pt_s, Z.pt_o, Z.pt_i, Z.gs_d, Z.gs_r, Z.gs_s, Z.gSl_l, Z.gSl_t, Z.r_it, Z.it_l, Z.it_t, Z.r_enum, Z.en_l, Z.en_t, Z.r_rng1, Z.r_rng2, Z.r1_o, Z.r2_o, Z.r_for, Z.fo_o, Z.bd_o, Z.for_nil, Z.fl_n, Z.fl_c, Z.fl_b, Z.fl_r, Z.wc_t, Z.wc_f, Z.wb_n, Z.wb_r, Z.lc_nil, Z.lc_z, Z.lc_t, Z.lc_f, Z.lc_b, Z.lc_c, Z.r_lc, Z.lm_o, Z.lm_p, Z.gAdd_ii, Z.gAdd_ll, Z.gAdd_tt, Z.gSub_ii, Z.gMul_ii, Z.gDiv_ii, Z.gMod_ii, Z.gPow_ii, Z.gNeg_i, Z.bV_s, Z.gIx_l, Z.gIx_t, Z.gLen_l, Z.gLen_t, Z.gTup_l, Z.gTup_t, Z.gLst_l, Z.gLst_t, Z.gInt_i, Z.gInt_b, Z.gAbs_i, Z.gNot_b, Z.gZip_tt, Z.gZip_ll, Z.gAll_l, Z.gAny_l, Z.gSum_l, Z.gLRg1, Z.atI_0, Z.atI_1, Z.atI_2, Z.atI_3, Z.gS0, Z.gSj, Z.tS0, Z.tSj, Z.sS0, Z.sSj, Z.tSe, Z.r_lc2, Z.l2_o, Z.tL_l, Z.tL_t, Z.tL_i, Z.blsOf_true, Z.all_true, gEq_ii, gNe_ii, gEq_bb, gNe_bb, gLt_ii, gLe_ii, gGt_ii, gGe_ii, sub_sub_drop, HT.sIx_none, take_self, take_set, len_set, set_set, r_setL, putD, ixN, mk0, all_couples_ok h0 h1, wipeE]
  rw [lc_eq (fun z : Int => 0 ≤ z ∧ z < 2147483647) (fun z => S ++ [DrO z]) tblS (seed % 2147483647)]
  · simp [Z.r_var, Z.r_varK, Z.r_C, Z.r_fn, Z.r_yes, Z.rd_d, Z.rd_r, Z.rdK_l, Z.rdK_f, Z.r_on1, Z.r_on2, Z.o1_s, Z.o2_s, Z.r_outN, Z.oK_v, Z.oK_l, Z.r_m1, Z.m1_o, Z.r_m2, Z.m2_o, Z.m2_p, Z.r_mB, Z.mB_o, Z.r_nil, Z.r_cons, Z.cn_o, Z.cn_p, Z.a1_s, Z.a2_s, Z.pu_nil, Z.pu_cons, Z.puK_s, Z.r_tup, Z.r_lst, Z.tp_s, Z.lt_s, Z.okLen_if, Z.r_fz, Z.fz_d, Z.fz_f, Z.fz_s, Z.fz_r, Z.fzR_l, Z.fzR_f, Z.r_T, Z.t_o, Z.tL_b, Z.r_not, Z.nt_o, Z.r_and, Z.r_or, Z.an_t, Z.an_f, Z.or_t, Z.or_f, Z.r_seq, Z.sq_n, Z.sq_r, Z.sq_b, Z.sq_c, Z.r_drop, Z.dr_o, Z.r_ret, Z.rt_o, Z.r_retN, Z.r_if, Z.if_o, Z.if_t', Z.if_f', Z.r_skip, Z.r_bk, Z.r_ct, Z.r_set, Z.st_o, Z.r_asg, Z.as_o, Z.as_p, Z.g_nm, Z.g_tp, Z.g_nil, Z.g_cons, Z.gc_o, Z.r_par, Z.pr_o, Z.pr_p, Z.sA_nil, Z.sA_cons, Z.r_fnM, Z.fn_n, Z.fn_d, Z.fn_r, Z.fr_l, Z.fr_f, Z.fr_i, Z.r_call, Z.cl_o, Z.r_callV, Z.cv_s, Z.in_r, Z.in_s, Z.r_fld, Z.fd_o, Z.fd_p, Z.fd_q, Z.r_setF, Z.sf_o, Z.sf_p, Z.sf_q, Z.r_meth, Z.mt_o, Z.mt_p, Z.mt_q, Z.r_make, Z.mk_o, Z.mk_p, Z.r_mt, Z.mm_o, Z.mm_p, Z.mm_q, Z.mm_r, Z.mm_s, Z.f_app, Z.f_ext, Z.ex_s, Z.f_popAt, Z.r_setIx, Z.si_o, Z.si_p, Z.si_q, Z.si_r, Z.sl_s, Z.r_augIx, Z.ai_o, Z.ai_p, Z.ai_q, Z.ai_r, Z.ai_s, Z.r_getL, Z.gl_s, Z.ip_add, Z.ip_sub, Z.r_aug, Z.ag_o, Z.ag_p, Z.ag_q, Z.r_ifE, Z.i_t, Z.i_f, Z.i_o, Z.r_andV, Z.av_o, Z.av_t, Z.av_f, Z.onB_K, Z.oBK_s, Z.r_chain, Z.ch_a, Z.ch_b, Z.ch_t, Z.ch_f, Z.ch_d, Z.ch_e, Z.r_chain3, Z.c3_a, Z.c3_b, Z.c3_t, Z.c3_f, Z.c3_d, Z.r_sl, Z.sl_a, Z.sl_b, Z.sl_c, Z.pt_n, Z.pt_s, Z.pt_o, Z.pt_i, Z.gs_d, Z.gs_r, Z.gs_s, Z.gSl_l, Z.gSl_t, Z.r_it, Z.it_l, Z.it_t, Z.r_enum, Z.en_l, Z.en_t, Z.r_rng1, Z.r_rng2, Z.r1_o, Z.r2_o, Z.r_for, Z.fo_o, Z.bd_o, Z.for_nil, Z.fl_n, Z.fl_c, Z.fl_b, Z.fl_r, Z.wc_t, Z.wc_f, Z.wb_n, Z.wb_r, Z.lc_nil, Z.lc_z, Z.lc_t, Z.lc_f, Z.lc_b, Z.lc_c, Z.r_lc, Z.lm_o, Z.lm_p, Z.gAdd_ii, Z.gAdd_ll, Z.gAdd_tt, Z.gSub_ii, Z.gMul_ii, Z.gDiv_ii, Z.gMod_ii, Z.gPow_ii, Z.gNeg_i, Z.bV_s, Z.gIx_l, Z.gIx_t, Z.gLen_l, Z.gLen_t, Z.gTup_l, Z.gTup_t, Z.gLst_l, Z.gLst_t, Z.gInt_i, Z.gInt_b, Z.gAbs_i, Z.gNot_b, Z.gZip_tt, Z.gZip_ll, Z.gAll_l, Z.gAny_l, Z.gSum_l, Z.gLRg1, Z.atI_0, Z.atI_1, Z.atI_2, Z.atI_3, Z.gS0, Z.gSj, Z.tS0, Z.tSj, Z.sS0, Z.sSj, Z.tSe, Z.r_lc2, Z.l2_o, Z.tL_l, Z.tL_t, Z.tL_i, Z.blsOf_true, Z.all_true, gEq_ii, gNe_ii, gEq_bb, gNe_bb, gLt_ii, gLe_ii, gGt_ii, gGe_ii, sub_sub_drop, HT.sIx_none, take_self, take_set, len_set, set_set, r_setL, putD, ixN]
    rfl
  · simp
  · intro s _; simp
  · exact emod_rng _ (by omega)
  · exact Nat.le_trans (cpl_len h0 h1) (by decide)
  · rintro z d hd ⟨z0, z1⟩
    refine ⟨⟨nxt_lo _, nxt_hi _⟩, ⟨fun acc => ⟨[some (.d (.int seed)), some (.d (.int n)), some (.r S.length), some (.d d)], S ++ [DrO z], S ++ [DrO (nxt z)], ?_, ?_, ?_, ?_⟩⟩⟩
    · simp [Z.r_var, Z.r_varK, Z.r_C, Z.r_fn, Z.r_yes, Z.rd_d, Z.rd_r, Z.rdK_l, Z.rdK_f, Z.r_on1, Z.r_on2, Z.o1_s, Z.o2_s, Z.r_outN, Z.oK_v, Z.oK_l, Z.r_m1, Z.m1_o, Z.r_m2, Z.m2_o, Z.m2_p, Z.r_mB, Z.mB_o, Z.r_nil, Z.r_cons, Z.cn_o, Z.cn_p, Z.a1_s, Z.a2_s, Z.pu_nil, Z.pu_cons, Z.puK_s, Z.r_tup, Z.r_lst, Z.tp_s, Z.lt_s, Z.okLen_if, Z.r_fz, Z.fz_d, Z.fz_f, Z.fz_s, Z.fz_r, Z.fzR_l, Z.fzR_f, Z.r_T, Z.t_o, Z.tL_b, Z.r_not, Z.nt_o, Z.r_and, Z.r_or, Z.an_t, Z.an_f, Z.or_t, Z.or_f, Z.r_seq, Z.sq_n, Z.sq_r, Z.sq_b, Z.sq_c, Z.r_drop, Z.dr_o, Z.r_ret, Z.rt_o, Z.r_retN, Z.r_if, Z.if_o, Z.if_t', Z.if_f', Z.r_skip, Z.r_bk, Z.r_ct, Z.r_set, Z.st_o, Z.r_asg, Z.as_o, Z.as_p, Z.g_nm, Z.g_tp, Z.g_nil, Z.g_cons, Z.gc_o, Z.r_par, Z.pr_o, Z.pr_p, Z.sA_nil, Z.sA_cons, Z.r_fnM, Z.fn_n, Z.fn_d, Z.fn_r, Z.fr_l, Z.fr_f, Z.fr_i, Z.r_call, Z.cl_o, Z.r_callV, Z.cv_s, Z.in_r, Z.in_s, Z.r_fld, Z.fd_o, Z.fd_p, Z.fd_q, Z.r_setF, Z.sf_o, Z.sf_p, Z.sf_q, Z.r_meth, Z.mt_o, Z.mt_p, Z.mt_q, Z.r_make, Z.mk_o, Z.mk_p, Z.r_mt, Z.mm_o, Z.mm_p, Z.mm_q, Z.mm_r, Z.mm_s, Z.f_app, Z.f_ext, Z.ex_s, Z.f_popAt, Z.r_setIx, Z.si_o, Z.si_p, Z.si_q, Z.si_r, Z.sl_s, Z.r_augIx, Z.ai_o, Z.ai_p, Z.ai_q, Z.ai_r, Z.ai_s, Z.r_getL, Z.gl_s, Z.ip_add, Z.ip_sub, Z.r_aug, Z.ag_o, Z.ag_p, Z.ag_q, Z.r_ifE, Z.i_t, Z.i_f, Z.i_o, Z.r_andV, Z.av_o, Z.av_t, Z.av_f, Z.onB_K, Z.oBK_s, Z.r_chain, Z.ch_a, Z.ch_b, Z.ch_t, Z.ch_f, Z.ch_d, Z.ch_e, Z.r_chain3, Z.c3_a, Z.c3_b, Z.c3_t, Z.c3_f, Z.c3_d, Z.r_sl, Z.sl_a, Z.sl_b, Z.sl_c, Z.pt_n, Z.pt_s, Z.pt_o, Z.pt_i, Z.gs_d, Z.gs_r, Z.gs_s, Z.gSl_l, Z.gSl_t, Z.r_it, Z.it_l, Z.it_t, Z.r_enum, Z.en_l, Z.en_t, Z.r_rng1, Z.r_rng2, Z.r1_o, Z.r2_o, Z.r_for, Z.fo_o, Z.bd_o, Z.for_nil, Z.fl_n, Z.fl_c, Z.fl_b, Z.fl_r, Z.wc_t, Z.wc_f, Z.wb_n, Z.wb_r, Z.lc_nil, Z.lc_z, Z.lc_t, Z.lc_f, Z.lc_b, Z.lc_c, Z.r_lc, Z.lm_o, Z.lm_p, Z.gAdd_ii, Z.gAdd_ll, Z.gAdd_tt, Z.gSub_ii, Z.gMul_ii, Z.gDiv_ii, Z.gMod_ii, Z.gPow_ii, Z.gNeg_i, Z.bV_s, Z.gIx_l, Z.gIx_t, Z.gLen_l, Z.gLen_t, Z.gTup_l, Z.gTup_t, Z.gLst_l, Z.gLst_t, Z.gInt_i, Z.gInt_b, Z.gAbs_i, Z.gNot_b, Z.gZip_tt, Z.gZip_ll, Z.gAll_l, Z.gAny_l, Z.gSum_l, Z.gLRg1, Z.atI_0, Z.atI_1, Z.atI_2, Z.atI_3, Z.gS0, Z.gSj, Z.tS0, Z.tSj, Z.sS0, Z.sSj, Z.tSe, Z.r_lc2, Z.l2_o, Z.tL_l, Z.tL_t, Z.tL_i, Z.blsOf_true, Z.all_true, gEq_ii, gNe_ii, gEq_bb, gNe_bb, gLt_ii, gLe_ii, gGt_ii, gGe_ii, sub_sub_drop, HT.sIx_none, take_self, take_set, len_set, set_set, r_setL, putD, ixN]
    · simp [Z.r_var, Z.r_varK, Z.r_C, Z.r_fn, Z.r_yes, Z.rd_d, Z.rd_r, Z.rdK_l, Z.rdK_f, Z.r_on1, Z.r_on2, Z.o1_s, Z.o2_s, Z.r_outN, Z.oK_v, Z.oK_l, Z.r_m1, Z.m1_o, Z.r_m2, Z.m2_o, Z.m2_p, Z.r_mB, Z.mB_o, Z.r_nil, Z.r_cons, Z.cn_o, Z.cn_p, Z.a1_s, Z.a2_s, Z.pu_nil, Z.pu_cons, Z.puK_s, Z.r_tup, Z.r_lst, Z.tp_s, Z.lt_s, Z.okLen_if, Z.r_fz, Z.fz_d, Z.fz_f, Z.fz_s, Z.fz_r, Z.fzR_l, Z.fzR_f, Z.r_T, Z.t_o, Z.tL_b, Z.r_not, Z.nt_o, Z.r_and, Z.r_or, Z.an_t, Z.an_f, Z.or_t, Z.or_f, Z.r_seq, Z.sq_n, Z.sq_r, Z.sq_b, Z.sq_c, Z.r_drop, Z.dr_o, Z.r_ret, Z.rt_o, Z.r_retN, Z.r_if, Z.if_o, Z.if_t', Z.if_f', Z.r_skip, Z.r_bk, Z.r_ct, Z.r_set, Z.st_o, Z.r_asg, Z.as_o, Z.as_p, Z.g_nm, Z.g_tp, Z.g_nil, Z.g_cons, Z.gc_o, Z.r_par, Z.pr_o, Z.pr_p, Z.sA_nil, Z.sA_cons, Z.r_fnM, Z.fn_n, Z.fn_d, Z.fn_r, Z.fr_l, Z.fr_f, Z.fr_i, Z.r_call, Z.cl_o, Z.r_callV, Z.cv_s, Z.in_r, Z.in_s, Z.r_fld, Z.fd_o, Z.fd_p, Z.fd_q, Z.r_setF, Z.sf_o, Z.sf_p, Z.sf_q, Z.r_meth, Z.mt_o, Z.mt_p, Z.mt_q, Z.r_make, Z.mk_o, Z.mk_p, Z.r_mt, Z.mm_o, Z.mm_p, Z.mm_q, Z.mm_r, Z.mm_s, Z.f_app, Z.f_ext, Z.ex_s, Z.f_popAt, Z.r_setIx, Z.si_o, Z.si_p, Z.si_q, Z.si_r, Z.sl_s, Z.r_augIx, Z.ai_o, Z.ai_p, Z.ai_q, Z.ai_r, Z.ai_s, Z.r_getL, Z.gl_s, Z.ip_add, Z.ip_sub, Z.r_aug, Z.ag_o, Z.ag_p, Z.ag_q, Z.r_ifE, Z.i_t, Z.i_f, Z.i_o, Z.r_andV, Z.av_o, Z.av_t, Z.av_f, Z.onB_K, Z.oBK_s, Z.r_chain, Z.ch_a, Z.ch_b, Z.ch_t, Z.ch_f, Z.ch_d, Z.ch_e, Z.r_chain3, Z.c3_a, Z.c3_b, Z.c3_t, Z.c3_f, Z.c3_d, Z.r_sl, Z.sl_a, Z.sl_b, Z.sl_c, Z.pt_n, Z.pt_s, Z.pt_o, Z.pt_i, Z.gs_d, Z.gs_r, Z.gs_s, Z.gSl_l, Z.gSl_t, Z.r_it, Z.it_l, Z.it_t, Z.r_enum, Z.en_l, Z.en_t, Z.r_rng1, Z.r_rng2, Z.r1_o, Z.r2_o, Z.r_for, Z.fo_o, Z.bd_o, Z.for_nil, Z.fl_n, Z.fl_c, Z.fl_b, Z.fl_r, Z.wc_t, Z.wc_f, Z.wb_n, Z.wb_r, Z.lc_nil, Z.lc_z, Z.lc_t, Z.lc_f, Z.lc_b, Z.lc_c, Z.r_lc, Z.lm_o, Z.lm_p, Z.gAdd_ii, Z.gAdd_ll, Z.gAdd_tt, Z.gSub_ii, Z.gMul_ii, Z.gDiv_ii, Z.gMod_ii, Z.gPow_ii, Z.gNeg_i, Z.bV_s, Z.gIx_l, Z.gIx_t, Z.gLen_l, Z.gLen_t, Z.gTup_l, Z.gTup_t, Z.gLst_l, Z.gLst_t, Z.gInt_i, Z.gInt_b, Z.gAbs_i, Z.gNot_b, Z.gZip_tt, Z.gZip_ll, Z.gAll_l, Z.gAny_l, Z.gSum_l, Z.gLRg1, Z.atI_0, Z.atI_1, Z.atI_2, Z.atI_3, Z.gS0, Z.gSj, Z.tS0, Z.tSj, Z.sS0, Z.sSj, Z.tSe, Z.r_lc2, Z.l2_o, Z.tL_l, Z.tL_t, Z.tL_i, Z.blsOf_true, Z.all_true, gEq_ii, gNe_ii, gEq_bb, gNe_bb, gLt_ii, gLe_ii, gGt_ii, gGe_ii, sub_sub_drop, HT.sIx_none, take_self, take_set, len_set, set_set, r_setL, putD, ixN, mtT, dt0 z0 z1, tblS]
      by_cases q : dr (nxt z) 5 < 2 <;> simp [q]
    · intro y hy
      unfold tblS at hy
      split at hy
      · cases hy; simp [Z.r_var, Z.r_varK, Z.r_C, Z.r_fn, Z.r_yes, Z.rd_d, Z.rd_r, Z.rdK_l, Z.rdK_f, Z.r_on1, Z.r_on2, Z.o1_s, Z.o2_s, Z.r_outN, Z.oK_v, Z.oK_l, Z.r_m1, Z.m1_o, Z.r_m2, Z.m2_o, Z.m2_p, Z.r_mB, Z.mB_o, Z.r_nil, Z.r_cons, Z.cn_o, Z.cn_p, Z.a1_s, Z.a2_s, Z.pu_nil, Z.pu_cons, Z.puK_s, Z.r_tup, Z.r_lst, Z.tp_s, Z.lt_s, Z.okLen_if, Z.r_fz, Z.fz_d, Z.fz_f, Z.fz_s, Z.fz_r, Z.fzR_l, Z.fzR_f, Z.r_T, Z.t_o, Z.tL_b, Z.r_not, Z.nt_o, Z.r_and, Z.r_or, Z.an_t, Z.an_f, Z.or_t, Z.or_f, Z.r_seq, Z.sq_n, Z.sq_r, Z.sq_b, Z.sq_c, Z.r_drop, Z.dr_o, Z.r_ret, Z.rt_o, Z.r_retN, Z.r_if, Z.if_o, Z.if_t', Z.if_f', Z.r_skip, Z.r_bk, Z.r_ct, Z.r_set, Z.st_o, Z.r_asg, Z.as_o, Z.as_p, Z.g_nm, Z.g_tp, Z.g_nil, Z.g_cons, Z.gc_o, Z.r_par, Z.pr_o, Z.pr_p, Z.sA_nil, Z.sA_cons, Z.r_fnM, Z.fn_n, Z.fn_d, Z.fn_r, Z.fr_l, Z.fr_f, Z.fr_i, Z.r_call, Z.cl_o, Z.r_callV, Z.cv_s, Z.in_r, Z.in_s, Z.r_fld, Z.fd_o, Z.fd_p, Z.fd_q, Z.r_setF, Z.sf_o, Z.sf_p, Z.sf_q, Z.r_meth, Z.mt_o, Z.mt_p, Z.mt_q, Z.r_make, Z.mk_o, Z.mk_p, Z.r_mt, Z.mm_o, Z.mm_p, Z.mm_q, Z.mm_r, Z.mm_s, Z.f_app, Z.f_ext, Z.ex_s, Z.f_popAt, Z.r_setIx, Z.si_o, Z.si_p, Z.si_q, Z.si_r, Z.sl_s, Z.r_augIx, Z.ai_o, Z.ai_p, Z.ai_q, Z.ai_r, Z.ai_s, Z.r_getL, Z.gl_s, Z.ip_add, Z.ip_sub, Z.r_aug, Z.ag_o, Z.ag_p, Z.ag_q, Z.r_ifE, Z.i_t, Z.i_f, Z.i_o, Z.r_andV, Z.av_o, Z.av_t, Z.av_f, Z.onB_K, Z.oBK_s, Z.r_chain, Z.ch_a, Z.ch_b, Z.ch_t, Z.ch_f, Z.ch_d, Z.ch_e, Z.r_chain3, Z.c3_a, Z.c3_b, Z.c3_t, Z.c3_f, Z.c3_d, Z.r_sl, Z.sl_a, Z.sl_b, Z.sl_c, Z.pt_n, Z.pt_s, Z.pt_o, Z.pt_i, Z.gs_d, Z.gs_r, Z.gs_s, Z.gSl_l, Z.gSl_t, Z.r_it, Z.it_l, Z.it_t, Z.r_enum, Z.en_l, Z.en_t, Z.r_rng1, Z.r_rng2, Z.r1_o, Z.r2_o, Z.r_for, Z.fo_o, Z.bd_o, Z.for_nil, Z.fl_n, Z.fl_c, Z.fl_b, Z.fl_r, Z.wc_t, Z.wc_f, Z.wb_n, Z.wb_r, Z.lc_nil, Z.lc_z, Z.lc_t, Z.lc_f, Z.lc_b, Z.lc_c, Z.r_lc, Z.lm_o, Z.lm_p, Z.gAdd_ii, Z.gAdd_ll, Z.gAdd_tt, Z.gSub_ii, Z.gMul_ii, Z.gDiv_ii, Z.gMod_ii, Z.gPow_ii, Z.gNeg_i, Z.bV_s, Z.gIx_l, Z.gIx_t, Z.gLen_l, Z.gLen_t, Z.gTup_l, Z.gTup_t, Z.gLst_l, Z.gLst_t, Z.gInt_i, Z.gInt_b, Z.gAbs_i, Z.gNot_b, Z.gZip_tt, Z.gZip_ll, Z.gAll_l, Z.gAny_l, Z.gSum_l, Z.gLRg1, Z.atI_0, Z.atI_1, Z.atI_2, Z.atI_3, Z.gS0, Z.gSj, Z.tS0, Z.tSj, Z.sS0, Z.sSj, Z.tSe, Z.r_lc2, Z.l2_o, Z.tL_l, Z.tL_t, Z.tL_i, Z.blsOf_true, Z.all_true, gEq_ii, gNe_ii, gEq_bb, gNe_bb, gLt_ii, gLe_ii, gGt_ii, gGe_ii, sub_sub_drop, HT.sIx_none, take_self, take_set, len_set, set_set, r_setL, putD, ixN, tblS]
      · cases hy
    · intro _; rfl
theorem own_table_ok {S : Sto} {seed n : Int} (h0 : 0 ≤ n) (h1 : n ≤ 10) : p__law_own_table [.d (.int seed), .d (.int n)] S = .ok (.d (.tuple [.int n, .tuple (tbl seed n)])) S := by
  unfold p__law_own_table
  simp [m__law_own_table, Z.r_var, Z.r_varK, Z.r_C, Z.r_fn, Z.r_yes, Z.rd_d, Z.rd_r, Z.rdK_l, Z.rdK_f, Z.r_on1, Z.r_on2, Z.o1_s, Z.o2_s, Z.r_outN, Z.oK_v, Z.oK_l, Z.r_m1, Z.m1_o, Z.r_m2, Z.m2_o, Z.m2_p, Z.r_mB, Z.mB_o, Z.r_nil, Z.r_cons, Z.cn_o, Z.cn_p, Z.a1_s, Z.a2_s, Z.pu_nil, Z.pu_cons, Z.puK_s, Z.r_tup, Z.r_lst, Z.tp_s, Z.lt_s, Z.okLen_if, Z.r_fz, Z.fz_d, Z.fz_f, Z.fz_s, Z.fz_r, Z.fzR_l, Z.fzR_f, Z.r_T, Z.t_o, Z.tL_b, Z.r_not, Z.nt_o, Z.r_and, Z.r_or, Z.an_t, Z.an_f, Z.or_t, Z.or_f, Z.r_seq, Z.sq_n, Z.sq_r, Z.sq_b, Z.sq_c, Z.r_drop, Z.dr_o, Z.r_ret, Z.rt_o, Z.r_retN, Z.r_if, Z.if_o, Z.if_t', Z.if_f', Z.r_skip, Z.r_bk, Z.r_ct, Z.r_set, Z.st_o, Z.r_asg, Z.as_o, Z.as_p, Z.g_nm, Z.g_tp, Z.g_nil, Z.g_cons, Z.gc_o, Z.r_par, Z.pr_o, Z.pr_p, Z.sA_nil, Z.sA_cons, Z.r_fnM, Z.fn_n, Z.fn_d, Z.fn_r, Z.fr_l, Z.fr_f, Z.fr_i, Z.r_call, Z.cl_o, Z.r_callV, Z.cv_s, Z.in_r, Z.in_s, Z.r_fld, Z.fd_o, Z.fd_p, Z.fd_q, Z.r_setF, Z.sf_o, Z.sf_p, Z.sf_q, Z.r_meth, Z.mt_o, Z.mt_p, Z.mt_q, Z.r_make, Z.mk_o, Z.mk_p, Z.r_mt, Z.mm_o, Z.mm_p, Z.mm_q, Z.mm_r, Z.mm_s, Z.f_app, Z.f_ext, Z.ex_s, Z.f_popAt, Z.r_setIx, Z.si_o, Z.si_p, Z.si_q, Z.si_r, Z.sl_s, Z.r_augIx, Z.ai_o, Z.ai_p, Z.ai_q, Z.ai_r, Z.ai_s, Z.r_getL, Z.gl_s, Z.ip_add, Z.ip_sub, Z.r_aug, Z.ag_o, Z.ag_p, Z.ag_q, Z.r_ifE, Z.i_t, Z.i_f, Z.i_o, Z.r_andV, Z.av_o, Z.av_t, Z.av_f, Z.onB_K, Z.oBK_s, Z.r_chain, Z.ch_a, Z.ch_b, Z.ch_t, Z.ch_f, Z.ch_d, Z.ch_e, Z.r_chain3, Z.c3_a, Z.c3_b, Z.c3_t, Z.c3_f, Z.c3_d, Z.r_sl, Z.sl_a, Z.sl_b, Z.sl_c, Z.pt_n, Z.pt_s, Z.pt_o, Z.pt_i, Z.gs_d, Z.gs_r, Z.gs_s, Z.gSl_l, Z.gSl_t, Z.r_it, Z.it_l, Z.it_t, Z.r_enum, Z.en_l, Z.en_t, Z.r_rng1, Z.r_rng2, Z.r1_o, Z.r2_o, Z.r_for, Z.fo_o, Z.bd_o, Z.for_nil, Z.fl_n, Z.fl_c, Z.fl_b, Z.fl_r, Z.wc_t, Z.wc_f, Z.wb_n, Z.wb_r, Z.lc_nil, Z.lc_z, Z.lc_t, Z.lc_f, Z.lc_b, Z.lc_c, Z.r_lc, Z.lm_o, Z.lm_p, Z.gAdd_ii, Z.gAdd_ll, Z.gAdd_tt, Z.gSub_ii, Z.gMul_ii, Z.gDiv_ii, Z.gMod_ii, Z.gPow_ii, Z.gNeg_i, Z.bV_s, Z.gIx_l, Z.gIx_t, Z.gLen_l, Z.gLen_t, Z.gTup_l, Z.gTup_t, Z.gLst_l, Z.gLst_t, Z.gInt_i, Z.gInt_b, Z.gAbs_i, Z.gNot_b, Z.gZip_tt, Z.gZip_ll, Z.gAll_l, Z.gAny_l, Z.gSum_l, Z.gLRg1, Z.atI_0, Z.atI_1, Z.atI_2, Z.atI_3, Z.gS0, Z.gSj, Z.tS0, Z.tSj, Z.sS0, Z.sSj, Z.tSe, Z.r_lc2, Z.l2_o, Z.tL_l, Z.tL_t, Z.tL_i, Z.blsOf_true, Z.all_true, gEq_ii, gNe_ii, gEq_bb, gNe_bb, gLt_ii, gLe_ii, gGt_ii, gGe_ii, sub_sub_drop, HT.sIx_none, take_self, take_set, len_set, set_set, r_setL, putD, ixN, law_begun_ok, law_couples_ok h0 h1, wipeE]
  rw [lc_eq (fun z : Int => 0 ≤ z ∧ z < 2147483647) (fun z => S ++ [OwO z]) tblS (seed % 2147483647)]
  · simp [Z.r_var, Z.r_varK, Z.r_C, Z.r_fn, Z.r_yes, Z.rd_d, Z.rd_r, Z.rdK_l, Z.rdK_f, Z.r_on1, Z.r_on2, Z.o1_s, Z.o2_s, Z.r_outN, Z.oK_v, Z.oK_l, Z.r_m1, Z.m1_o, Z.r_m2, Z.m2_o, Z.m2_p, Z.r_mB, Z.mB_o, Z.r_nil, Z.r_cons, Z.cn_o, Z.cn_p, Z.a1_s, Z.a2_s, Z.pu_nil, Z.pu_cons, Z.puK_s, Z.r_tup, Z.r_lst, Z.tp_s, Z.lt_s, Z.okLen_if, Z.r_fz, Z.fz_d, Z.fz_f, Z.fz_s, Z.fz_r, Z.fzR_l, Z.fzR_f, Z.r_T, Z.t_o, Z.tL_b, Z.r_not, Z.nt_o, Z.r_and, Z.r_or, Z.an_t, Z.an_f, Z.or_t, Z.or_f, Z.r_seq, Z.sq_n, Z.sq_r, Z.sq_b, Z.sq_c, Z.r_drop, Z.dr_o, Z.r_ret, Z.rt_o, Z.r_retN, Z.r_if, Z.if_o, Z.if_t', Z.if_f', Z.r_skip, Z.r_bk, Z.r_ct, Z.r_set, Z.st_o, Z.r_asg, Z.as_o, Z.as_p, Z.g_nm, Z.g_tp, Z.g_nil, Z.g_cons, Z.gc_o, Z.r_par, Z.pr_o, Z.pr_p, Z.sA_nil, Z.sA_cons, Z.r_fnM, Z.fn_n, Z.fn_d, Z.fn_r, Z.fr_l, Z.fr_f, Z.fr_i, Z.r_call, Z.cl_o, Z.r_callV, Z.cv_s, Z.in_r, Z.in_s, Z.r_fld, Z.fd_o, Z.fd_p, Z.fd_q, Z.r_setF, Z.sf_o, Z.sf_p, Z.sf_q, Z.r_meth, Z.mt_o, Z.mt_p, Z.mt_q, Z.r_make, Z.mk_o, Z.mk_p, Z.r_mt, Z.mm_o, Z.mm_p, Z.mm_q, Z.mm_r, Z.mm_s, Z.f_app, Z.f_ext, Z.ex_s, Z.f_popAt, Z.r_setIx, Z.si_o, Z.si_p, Z.si_q, Z.si_r, Z.sl_s, Z.r_augIx, Z.ai_o, Z.ai_p, Z.ai_q, Z.ai_r, Z.ai_s, Z.r_getL, Z.gl_s, Z.ip_add, Z.ip_sub, Z.r_aug, Z.ag_o, Z.ag_p, Z.ag_q, Z.r_ifE, Z.i_t, Z.i_f, Z.i_o, Z.r_andV, Z.av_o, Z.av_t, Z.av_f, Z.onB_K, Z.oBK_s, Z.r_chain, Z.ch_a, Z.ch_b, Z.ch_t, Z.ch_f, Z.ch_d, Z.ch_e, Z.r_chain3, Z.c3_a, Z.c3_b, Z.c3_t, Z.c3_f, Z.c3_d, Z.r_sl, Z.sl_a, Z.sl_b, Z.sl_c, Z.pt_n, Z.pt_s, Z.pt_o, Z.pt_i, Z.gs_d, Z.gs_r, Z.gs_s, Z.gSl_l, Z.gSl_t, Z.r_it, Z.it_l, Z.it_t, Z.r_enum, Z.en_l, Z.en_t, Z.r_rng1, Z.r_rng2, Z.r1_o, Z.r2_o, Z.r_for, Z.fo_o, Z.bd_o, Z.for_nil, Z.fl_n, Z.fl_c, Z.fl_b, Z.fl_r, Z.wc_t, Z.wc_f, Z.wb_n, Z.wb_r, Z.lc_nil, Z.lc_z, Z.lc_t, Z.lc_f, Z.lc_b, Z.lc_c, Z.r_lc, Z.lm_o, Z.lm_p, Z.gAdd_ii, Z.gAdd_ll, Z.gAdd_tt, Z.gSub_ii, Z.gMul_ii, Z.gDiv_ii, Z.gMod_ii, Z.gPow_ii, Z.gNeg_i, Z.bV_s, Z.gIx_l, Z.gIx_t, Z.gLen_l, Z.gLen_t, Z.gTup_l, Z.gTup_t, Z.gLst_l, Z.gLst_t, Z.gInt_i, Z.gInt_b, Z.gAbs_i, Z.gNot_b, Z.gZip_tt, Z.gZip_ll, Z.gAll_l, Z.gAny_l, Z.gSum_l, Z.gLRg1, Z.atI_0, Z.atI_1, Z.atI_2, Z.atI_3, Z.gS0, Z.gSj, Z.tS0, Z.tSj, Z.sS0, Z.sSj, Z.tSe, Z.r_lc2, Z.l2_o, Z.tL_l, Z.tL_t, Z.tL_i, Z.blsOf_true, Z.all_true, gEq_ii, gNe_ii, gEq_bb, gNe_bb, gLt_ii, gLe_ii, gGt_ii, gGe_ii, sub_sub_drop, HT.sIx_none, take_self, take_set, len_set, set_set, r_setL, putD, ixN]
    rfl
  · simp
  · intro s _; simp
  · exact emod_rng _ (by omega)
  · exact Nat.le_trans (cpl_len h0 h1) (by decide)
  · rintro z d hd ⟨z0, z1⟩
    refine ⟨⟨nxt_lo _, nxt_hi _⟩, ⟨fun acc => ⟨[some (.d (.int seed)), some (.d (.int n)), some (.r S.length), some (.d d)], S ++ [OwO z], S ++ [OwO (nxt z)], ?_, ?_, ?_, ?_⟩⟩⟩
    · simp [Z.r_var, Z.r_varK, Z.r_C, Z.r_fn, Z.r_yes, Z.rd_d, Z.rd_r, Z.rdK_l, Z.rdK_f, Z.r_on1, Z.r_on2, Z.o1_s, Z.o2_s, Z.r_outN, Z.oK_v, Z.oK_l, Z.r_m1, Z.m1_o, Z.r_m2, Z.m2_o, Z.m2_p, Z.r_mB, Z.mB_o, Z.r_nil, Z.r_cons, Z.cn_o, Z.cn_p, Z.a1_s, Z.a2_s, Z.pu_nil, Z.pu_cons, Z.puK_s, Z.r_tup, Z.r_lst, Z.tp_s, Z.lt_s, Z.okLen_if, Z.r_fz, Z.fz_d, Z.fz_f, Z.fz_s, Z.fz_r, Z.fzR_l, Z.fzR_f, Z.r_T, Z.t_o, Z.tL_b, Z.r_not, Z.nt_o, Z.r_and, Z.r_or, Z.an_t, Z.an_f, Z.or_t, Z.or_f, Z.r_seq, Z.sq_n, Z.sq_r, Z.sq_b, Z.sq_c, Z.r_drop, Z.dr_o, Z.r_ret, Z.rt_o, Z.r_retN, Z.r_if, Z.if_o, Z.if_t', Z.if_f', Z.r_skip, Z.r_bk, Z.r_ct, Z.r_set, Z.st_o, Z.r_asg, Z.as_o, Z.as_p, Z.g_nm, Z.g_tp, Z.g_nil, Z.g_cons, Z.gc_o, Z.r_par, Z.pr_o, Z.pr_p, Z.sA_nil, Z.sA_cons, Z.r_fnM, Z.fn_n, Z.fn_d, Z.fn_r, Z.fr_l, Z.fr_f, Z.fr_i, Z.r_call, Z.cl_o, Z.r_callV, Z.cv_s, Z.in_r, Z.in_s, Z.r_fld, Z.fd_o, Z.fd_p, Z.fd_q, Z.r_setF, Z.sf_o, Z.sf_p, Z.sf_q, Z.r_meth, Z.mt_o, Z.mt_p, Z.mt_q, Z.r_make, Z.mk_o, Z.mk_p, Z.r_mt, Z.mm_o, Z.mm_p, Z.mm_q, Z.mm_r, Z.mm_s, Z.f_app, Z.f_ext, Z.ex_s, Z.f_popAt, Z.r_setIx, Z.si_o, Z.si_p, Z.si_q, Z.si_r, Z.sl_s, Z.r_augIx, Z.ai_o, Z.ai_p, Z.ai_q, Z.ai_r, Z.ai_s, Z.r_getL, Z.gl_s, Z.ip_add, Z.ip_sub, Z.r_aug, Z.ag_o, Z.ag_p, Z.ag_q, Z.r_ifE, Z.i_t, Z.i_f, Z.i_o, Z.r_andV, Z.av_o, Z.av_t, Z.av_f, Z.onB_K, Z.oBK_s, Z.r_chain, Z.ch_a, Z.ch_b, Z.ch_t, Z.ch_f, Z.ch_d, Z.ch_e, Z.r_chain3, Z.c3_a, Z.c3_b, Z.c3_t, Z.c3_f, Z.c3_d, Z.r_sl, Z.sl_a, Z.sl_b, Z.sl_c, Z.pt_n, Z.pt_s, Z.pt_o, Z.pt_i, Z.gs_d, Z.gs_r, Z.gs_s, Z.gSl_l, Z.gSl_t, Z.r_it, Z.it_l, Z.it_t, Z.r_enum, Z.en_l, Z.en_t, Z.r_rng1, Z.r_rng2, Z.r1_o, Z.r2_o, Z.r_for, Z.fo_o, Z.bd_o, Z.for_nil, Z.fl_n, Z.fl_c, Z.fl_b, Z.fl_r, Z.wc_t, Z.wc_f, Z.wb_n, Z.wb_r, Z.lc_nil, Z.lc_z, Z.lc_t, Z.lc_f, Z.lc_b, Z.lc_c, Z.r_lc, Z.lm_o, Z.lm_p, Z.gAdd_ii, Z.gAdd_ll, Z.gAdd_tt, Z.gSub_ii, Z.gMul_ii, Z.gDiv_ii, Z.gMod_ii, Z.gPow_ii, Z.gNeg_i, Z.bV_s, Z.gIx_l, Z.gIx_t, Z.gLen_l, Z.gLen_t, Z.gTup_l, Z.gTup_t, Z.gLst_l, Z.gLst_t, Z.gInt_i, Z.gInt_b, Z.gAbs_i, Z.gNot_b, Z.gZip_tt, Z.gZip_ll, Z.gAll_l, Z.gAny_l, Z.gSum_l, Z.gLRg1, Z.atI_0, Z.atI_1, Z.atI_2, Z.atI_3, Z.gS0, Z.gSj, Z.tS0, Z.tSj, Z.sS0, Z.sSj, Z.tSe, Z.r_lc2, Z.l2_o, Z.tL_l, Z.tL_t, Z.tL_i, Z.blsOf_true, Z.all_true, gEq_ii, gNe_ii, gEq_bb, gNe_bb, gLt_ii, gLe_ii, gGt_ii, gGe_ii, sub_sub_drop, HT.sIx_none, take_self, take_set, len_set, set_set, r_setL, putD, ixN]
    · simp [Z.r_var, Z.r_varK, Z.r_C, Z.r_fn, Z.r_yes, Z.rd_d, Z.rd_r, Z.rdK_l, Z.rdK_f, Z.r_on1, Z.r_on2, Z.o1_s, Z.o2_s, Z.r_outN, Z.oK_v, Z.oK_l, Z.r_m1, Z.m1_o, Z.r_m2, Z.m2_o, Z.m2_p, Z.r_mB, Z.mB_o, Z.r_nil, Z.r_cons, Z.cn_o, Z.cn_p, Z.a1_s, Z.a2_s, Z.pu_nil, Z.pu_cons, Z.puK_s, Z.r_tup, Z.r_lst, Z.tp_s, Z.lt_s, Z.okLen_if, Z.r_fz, Z.fz_d, Z.fz_f, Z.fz_s, Z.fz_r, Z.fzR_l, Z.fzR_f, Z.r_T, Z.t_o, Z.tL_b, Z.r_not, Z.nt_o, Z.r_and, Z.r_or, Z.an_t, Z.an_f, Z.or_t, Z.or_f, Z.r_seq, Z.sq_n, Z.sq_r, Z.sq_b, Z.sq_c, Z.r_drop, Z.dr_o, Z.r_ret, Z.rt_o, Z.r_retN, Z.r_if, Z.if_o, Z.if_t', Z.if_f', Z.r_skip, Z.r_bk, Z.r_ct, Z.r_set, Z.st_o, Z.r_asg, Z.as_o, Z.as_p, Z.g_nm, Z.g_tp, Z.g_nil, Z.g_cons, Z.gc_o, Z.r_par, Z.pr_o, Z.pr_p, Z.sA_nil, Z.sA_cons, Z.r_fnM, Z.fn_n, Z.fn_d, Z.fn_r, Z.fr_l, Z.fr_f, Z.fr_i, Z.r_call, Z.cl_o, Z.r_callV, Z.cv_s, Z.in_r, Z.in_s, Z.r_fld, Z.fd_o, Z.fd_p, Z.fd_q, Z.r_setF, Z.sf_o, Z.sf_p, Z.sf_q, Z.r_meth, Z.mt_o, Z.mt_p, Z.mt_q, Z.r_make, Z.mk_o, Z.mk_p, Z.r_mt, Z.mm_o, Z.mm_p, Z.mm_q, Z.mm_r, Z.mm_s, Z.f_app, Z.f_ext, Z.ex_s, Z.f_popAt, Z.r_setIx, Z.si_o, Z.si_p, Z.si_q, Z.si_r, Z.sl_s, Z.r_augIx, Z.ai_o, Z.ai_p, Z.ai_q, Z.ai_r, Z.ai_s, Z.r_getL, Z.gl_s, Z.ip_add, Z.ip_sub, Z.r_aug, Z.ag_o, Z.ag_p, Z.ag_q, Z.r_ifE, Z.i_t, Z.i_f, Z.i_o, Z.r_andV, Z.av_o, Z.av_t, Z.av_f, Z.onB_K, Z.oBK_s, Z.r_chain, Z.ch_a, Z.ch_b, Z.ch_t, Z.ch_f, Z.ch_d, Z.ch_e, Z.r_chain3, Z.c3_a, Z.c3_b, Z.c3_t, Z.c3_f, Z.c3_d, Z.r_sl, Z.sl_a, Z.sl_b, Z.sl_c, Z.pt_n, Z.pt_s, Z.pt_o, Z.pt_i, Z.gs_d, Z.gs_r, Z.gs_s, Z.gSl_l, Z.gSl_t, Z.r_it, Z.it_l, Z.it_t, Z.r_enum, Z.en_l, Z.en_t, Z.r_rng1, Z.r_rng2, Z.r1_o, Z.r2_o, Z.r_for, Z.fo_o, Z.bd_o, Z.for_nil, Z.fl_n, Z.fl_c, Z.fl_b, Z.fl_r, Z.wc_t, Z.wc_f, Z.wb_n, Z.wb_r, Z.lc_nil, Z.lc_z, Z.lc_t, Z.lc_f, Z.lc_b, Z.lc_c, Z.r_lc, Z.lm_o, Z.lm_p, Z.gAdd_ii, Z.gAdd_ll, Z.gAdd_tt, Z.gSub_ii, Z.gMul_ii, Z.gDiv_ii, Z.gMod_ii, Z.gPow_ii, Z.gNeg_i, Z.bV_s, Z.gIx_l, Z.gIx_t, Z.gLen_l, Z.gLen_t, Z.gTup_l, Z.gTup_t, Z.gLst_l, Z.gLst_t, Z.gInt_i, Z.gInt_b, Z.gAbs_i, Z.gNot_b, Z.gZip_tt, Z.gZip_ll, Z.gAll_l, Z.gAny_l, Z.gSum_l, Z.gLRg1, Z.atI_0, Z.atI_1, Z.atI_2, Z.atI_3, Z.gS0, Z.gSj, Z.tS0, Z.tSj, Z.sS0, Z.sSj, Z.tSe, Z.r_lc2, Z.l2_o, Z.tL_l, Z.tL_t, Z.tL_i, Z.blsOf_true, Z.all_true, gEq_ii, gNe_ii, gEq_bb, gNe_bb, gLt_ii, gLe_ii, gGt_ii, gGe_ii, sub_sub_drop, HT.sIx_none, take_self, take_set, len_set, set_set, r_setL, putD, ixN, ld0 z0 z1, tblS]
      by_cases q : dr (nxt z) 5 < 2 <;> simp [q]
    · intro y hy
      unfold tblS at hy
      split at hy
      · cases hy; simp [Z.r_var, Z.r_varK, Z.r_C, Z.r_fn, Z.r_yes, Z.rd_d, Z.rd_r, Z.rdK_l, Z.rdK_f, Z.r_on1, Z.r_on2, Z.o1_s, Z.o2_s, Z.r_outN, Z.oK_v, Z.oK_l, Z.r_m1, Z.m1_o, Z.r_m2, Z.m2_o, Z.m2_p, Z.r_mB, Z.mB_o, Z.r_nil, Z.r_cons, Z.cn_o, Z.cn_p, Z.a1_s, Z.a2_s, Z.pu_nil, Z.pu_cons, Z.puK_s, Z.r_tup, Z.r_lst, Z.tp_s, Z.lt_s, Z.okLen_if, Z.r_fz, Z.fz_d, Z.fz_f, Z.fz_s, Z.fz_r, Z.fzR_l, Z.fzR_f, Z.r_T, Z.t_o, Z.tL_b, Z.r_not, Z.nt_o, Z.r_and, Z.r_or, Z.an_t, Z.an_f, Z.or_t, Z.or_f, Z.r_seq, Z.sq_n, Z.sq_r, Z.sq_b, Z.sq_c, Z.r_drop, Z.dr_o, Z.r_ret, Z.rt_o, Z.r_retN, Z.r_if, Z.if_o, Z.if_t', Z.if_f', Z.r_skip, Z.r_bk, Z.r_ct, Z.r_set, Z.st_o, Z.r_asg, Z.as_o, Z.as_p, Z.g_nm, Z.g_tp, Z.g_nil, Z.g_cons, Z.gc_o, Z.r_par, Z.pr_o, Z.pr_p, Z.sA_nil, Z.sA_cons, Z.r_fnM, Z.fn_n, Z.fn_d, Z.fn_r, Z.fr_l, Z.fr_f, Z.fr_i, Z.r_call, Z.cl_o, Z.r_callV, Z.cv_s, Z.in_r, Z.in_s, Z.r_fld, Z.fd_o, Z.fd_p, Z.fd_q, Z.r_setF, Z.sf_o, Z.sf_p, Z.sf_q, Z.r_meth, Z.mt_o, Z.mt_p, Z.mt_q, Z.r_make, Z.mk_o, Z.mk_p, Z.r_mt, Z.mm_o, Z.mm_p, Z.mm_q, Z.mm_r, Z.mm_s, Z.f_app, Z.f_ext, Z.ex_s, Z.f_popAt, Z.r_setIx, Z.si_o, Z.si_p, Z.si_q, Z.si_r, Z.sl_s, Z.r_augIx, Z.ai_o, Z.ai_p, Z.ai_q, Z.ai_r, Z.ai_s, Z.r_getL, Z.gl_s, Z.ip_add, Z.ip_sub, Z.r_aug, Z.ag_o, Z.ag_p, Z.ag_q, Z.r_ifE, Z.i_t, Z.i_f, Z.i_o, Z.r_andV, Z.av_o, Z.av_t, Z.av_f, Z.onB_K, Z.oBK_s, Z.r_chain, Z.ch_a, Z.ch_b, Z.ch_t, Z.ch_f, Z.ch_d, Z.ch_e, Z.r_chain3, Z.c3_a, Z.c3_b, Z.c3_t, Z.c3_f, Z.c3_d, Z.r_sl, Z.sl_a, Z.sl_b, Z.sl_c, Z.pt_n, Z.pt_s, Z.pt_o, Z.pt_i, Z.gs_d, Z.gs_r, Z.gs_s, Z.gSl_l, Z.gSl_t, Z.r_it, Z.it_l, Z.it_t, Z.r_enum, Z.en_l, Z.en_t, Z.r_rng1, Z.r_rng2, Z.r1_o, Z.r2_o, Z.r_for, Z.fo_o, Z.bd_o, Z.for_nil, Z.fl_n, Z.fl_c, Z.fl_b, Z.fl_r, Z.wc_t, Z.wc_f, Z.wb_n, Z.wb_r, Z.lc_nil, Z.lc_z, Z.lc_t, Z.lc_f, Z.lc_b, Z.lc_c, Z.r_lc, Z.lm_o, Z.lm_p, Z.gAdd_ii, Z.gAdd_ll, Z.gAdd_tt, Z.gSub_ii, Z.gMul_ii, Z.gDiv_ii, Z.gMod_ii, Z.gPow_ii, Z.gNeg_i, Z.bV_s, Z.gIx_l, Z.gIx_t, Z.gLen_l, Z.gLen_t, Z.gTup_l, Z.gTup_t, Z.gLst_l, Z.gLst_t, Z.gInt_i, Z.gInt_b, Z.gAbs_i, Z.gNot_b, Z.gZip_tt, Z.gZip_ll, Z.gAll_l, Z.gAny_l, Z.gSum_l, Z.gLRg1, Z.atI_0, Z.atI_1, Z.atI_2, Z.atI_3, Z.gS0, Z.gSj, Z.tS0, Z.tSj, Z.sS0, Z.sSj, Z.tSe, Z.r_lc2, Z.l2_o, Z.tL_l, Z.tL_t, Z.tL_i, Z.blsOf_true, Z.all_true, gEq_ii, gNe_ii, gEq_bb, gNe_bb, gLt_ii, gLe_ii, gGt_ii, gGe_ii, sub_sub_drop, HT.sIx_none, take_self, take_set, len_set, set_set, r_setL, putD, ixN, tblS]
      · cases hy
    · intro _; rfl
/-! ranks -/
abbrev RS := Int × List D × List D
def rkS (s : RS) : RS := (nxt s.1, s.2.1.eraseIdx (dr (nxt s.1) s.2.1.length).toNat, s.2.2 ++ (s.2.1[(dr (nxt s.1) s.2.1.length).toNat]?).toList)
def rkF (s : RS) : Bool := s.2.1.isEmpty
def RK (s0 : RS) (L : List D) : Prop := ∃ k, L = (Nat.repeat rkS k s0).2.2 ∧ rkF (Nat.repeat rkS k s0) = true ∧ ∀ j, j < k → rkF (Nat.repeat rkS j s0) = false
theorem RK.uniq {s0 : RS} {L L' : List D} (h : RK s0 L) (h' : RK s0 L') : L = L' := by
  obtain ⟨k, e, f, g⟩ := h
  obtain ⟨k', e', f', g'⟩ := h'
  rcases Nat.lt_trichotomy k k' with q | q | q
  · rw [g' k q] at f; cases f
  · rw [e, e', q]
  · rw [g k' q] at f'; cases f'
structure RkI (s : RS) : Prop where
  z0 : 0 ≤ s.1
  z1 : s.1 < 2147483647
  l : s.2.1.length + s.2.2.length ≤ 1000
  i1 : ∀ d ∈ s.2.1, ∃ i, d = .int i
  i2 : ∀ d ∈ s.2.2, ∃ i, d = .int i
theorem dr_rng {z m : Int} (h : 0 < m) : 0 ≤ dr z m ∧ dr z m < m := emod_rng _ h
theorem RkI.step {s : RS} (h : RkI s) (hf : rkF s = false) : RkI (rkS s) ∧ (rkS s).2.1.length < s.2.1.length := by
  obtain ⟨z, l, f⟩ := s
  obtain ⟨z0, z1, hl, i1, i2⟩ := h
  dsimp only at *
  have hn : 0 < l.length := by
    cases l with
    | nil => simp [rkF] at hf
    | cons x l => simp
  have hd := dr_rng (z := nxt z) (m := l.length) (by omega)
  have hi : (dr (nxt z) l.length).toNat < l.length := by omega
  have he : l[(dr (nxt z) l.length).toNat]? = some l[(dr (nxt z) l.length).toNat] := List.getElem?_eq_getElem hi
  have hle : (l.eraseIdx (dr (nxt z) l.length).toNat).length = l.length - 1 := List.length_eraseIdx_of_lt hi
  refine ⟨⟨nxt_lo _, nxt_hi _, ?_, fun d hd => i1 d (List.mem_of_mem_eraseIdx hd), fun d hd => ?_⟩, ?_⟩
  · simp only [rkS, he, hle, List.length_append, Option.toList, List.length_singleton]
    omega
  · simp only [rkS, he, Option.toList] at hd
    rcases List.mem_append.mp hd with q | q
    · exact i2 d q
    · rw [List.mem_singleton.mp q]
      exact i1 _ (List.getElem_mem hi)
  · simp only [rkS, hle]
    omega
theorem RkI.rep {s : RS} (h : RkI s) {k : Nat} (hk : ∀ j, j < k → rkF (Nat.repeat rkS j s) = false) : RkI (Nat.repeat rkS k s) := by
  induction k with
  | zero => exact h
  | succ k ih => exact ((ih fun j hj => hk j (by omega)).step (hk k (by omega))).1
theorem drawn_rank_ok {S : Sto} {seed n : Int} (h0 : 0 ≤ n) (h1 : n ≤ 1000) : ∃ L, RK (seed % 2147483647, rgD 0 n.toNat, []) L ∧ RkI (0, [], L) ∧ p_drawn_rank [.d (.int seed), .d (.int n)] S = .ok (.d (.tuple L)) S := by
  have hI0 : RkI (seed % 2147483647, rgD 0 n.toNat, []) := ⟨(emod_rng _ (by omega)).1, (emod_rng _ (by omega)).2, by simp [rgD_len]; omega, fun d hd => let ⟨i, e, _⟩ := mem_rgD hd; ⟨i, e⟩, fun d hd => by cases hd⟩
  have hrg : rgOk 0 n = true := by
    unfold rgOk
    rw [sm62 (by omega) (by omega), sm62 (by omega) (by omega), decide_eq_true (by omega)]
    rfl
  unfold p_drawn_rank
  simp [m_drawn_rank, Z.r_var, Z.r_varK, Z.r_C, Z.r_fn, Z.r_yes, Z.rd_d, Z.rd_r, Z.rdK_l, Z.rdK_f, Z.r_on1, Z.r_on2, Z.o1_s, Z.o2_s, Z.r_outN, Z.oK_v, Z.oK_l, Z.r_m1, Z.m1_o, Z.r_m2, Z.m2_o, Z.m2_p, Z.r_mB, Z.mB_o, Z.r_nil, Z.r_cons, Z.cn_o, Z.cn_p, Z.a1_s, Z.a2_s, Z.pu_nil, Z.pu_cons, Z.puK_s, Z.r_tup, Z.r_lst, Z.tp_s, Z.lt_s, Z.okLen_if, Z.r_fz, Z.fz_d, Z.fz_f, Z.fz_s, Z.fz_r, Z.fzR_l, Z.fzR_f, Z.r_T, Z.t_o, Z.tL_b, Z.r_not, Z.nt_o, Z.r_and, Z.r_or, Z.an_t, Z.an_f, Z.or_t, Z.or_f, Z.r_seq, Z.sq_n, Z.sq_r, Z.sq_b, Z.sq_c, Z.r_drop, Z.dr_o, Z.r_ret, Z.rt_o, Z.r_retN, Z.r_if, Z.if_o, Z.if_t', Z.if_f', Z.r_skip, Z.r_bk, Z.r_ct, Z.r_set, Z.st_o, Z.r_asg, Z.as_o, Z.as_p, Z.g_nm, Z.g_tp, Z.g_nil, Z.g_cons, Z.gc_o, Z.r_par, Z.pr_o, Z.pr_p, Z.sA_nil, Z.sA_cons, Z.r_fnM, Z.fn_n, Z.fn_d, Z.fn_r, Z.fr_l, Z.fr_f, Z.fr_i, Z.r_call, Z.cl_o, Z.r_callV, Z.cv_s, Z.in_r, Z.in_s, Z.r_fld, Z.fd_o, Z.fd_p, Z.fd_q, Z.r_setF, Z.sf_o, Z.sf_p, Z.sf_q, Z.r_meth, Z.mt_o, Z.mt_p, Z.mt_q, Z.r_make, Z.mk_o, Z.mk_p, Z.r_mt, Z.mm_o, Z.mm_p, Z.mm_q, Z.mm_r, Z.mm_s, Z.f_app, Z.f_ext, Z.ex_s, Z.f_popAt, Z.r_setIx, Z.si_o, Z.si_p, Z.si_q, Z.si_r, Z.sl_s, Z.r_augIx, Z.ai_o, Z.ai_p, Z.ai_q, Z.ai_r, Z.ai_s, Z.r_getL, Z.gl_s, Z.ip_add, Z.ip_sub, Z.r_aug, Z.ag_o, Z.ag_p, Z.ag_q, Z.r_ifE, Z.i_t, Z.i_f, Z.i_o, Z.r_andV, Z.av_o, Z.av_t, Z.av_f, Z.onB_K, Z.oBK_s, Z.r_chain, Z.ch_a, Z.ch_b, Z.ch_t, Z.ch_f, Z.ch_d, Z.ch_e, Z.r_chain3, Z.c3_a, Z.c3_b, Z.c3_t, Z.c3_f, Z.c3_d, Z.r_sl, Z.sl_a, Z.sl_b, Z.sl_c, Z.pt_n, Z.pt_s, Z.pt_o, Z.pt_i, Z.gs_d, Z.gs_r, Z.gs_s, Z.gSl_l, Z.gSl_t, Z.r_it, Z.it_l, Z.it_t, Z.r_enum, Z.en_l, Z.en_t, Z.r_rng1, Z.r_rng2, Z.r1_o, Z.r2_o, Z.r_for, Z.fo_o, Z.bd_o, Z.for_nil, Z.fl_n, Z.fl_c, Z.fl_b, Z.fl_r, Z.wc_t, Z.wc_f, Z.wb_n, Z.wb_r, Z.lc_nil, Z.lc_z, Z.lc_t, Z.lc_f, Z.lc_b, Z.lc_c, Z.r_lc, Z.lm_o, Z.lm_p, Z.gAdd_ii, Z.gAdd_ll, Z.gAdd_tt, Z.gSub_ii, Z.gMul_ii, Z.gDiv_ii, Z.gMod_ii, Z.gPow_ii, Z.gNeg_i, Z.bV_s, Z.gIx_l, Z.gIx_t, Z.gLen_l, Z.gLen_t, Z.gTup_l, Z.gTup_t, Z.gLst_l, Z.gLst_t, Z.gInt_i, Z.gInt_b, Z.gAbs_i, Z.gNot_b, Z.gZip_tt, Z.gZip_ll, Z.gAll_l, Z.gAny_l, Z.gSum_l, Z.gLRg1, Z.atI_0, Z.atI_1, Z.atI_2, Z.atI_3, Z.gS0, Z.gSj, Z.tS0, Z.tSj, Z.sS0, Z.sSj, Z.tSe, Z.r_lc2, Z.l2_o, Z.tL_l, Z.tL_t, Z.tL_i, Z.blsOf_true, Z.all_true, gEq_ii, gNe_ii, gEq_bb, gNe_bb, gLt_ii, gLe_ii, gGt_ii, gGe_ii, sub_sub_drop, HT.sIx_none, take_self, take_set, len_set, set_set, r_setL, putD, ixN, mk0, hrg]
  refine wh_thenP (fun r => ∃ L, RK (seed % 2147483647, rgD 0 n.toNat, []) L ∧ RkI (0, [], L) ∧ r = .ok (.d (.tuple L)) S) (fun o => fnK S.length (sqK _ o))
    (fun s E S' => E = [some (.d (.int seed)), some (.d (.int n)), some (.r S.length), some (.r (S.length + 1)), some (.r (S.length + 2))] ∧ S' = S ++ [DrO s.1, .lst s.2.1, .lst s.2.2] ∧ RkI s) (fun s => s.2.1.length) rkS rkF (seed % 2147483647, rgD 0 n.toNat, []) ?_ ?_ ?_ ?_
  · simp [rgD_len]; omega
  · exact ⟨rfl, rfl, hI0⟩
  · rintro ⟨z, l, f⟩ E S' ⟨rfl, rfl, hI⟩
    obtain ⟨z0, z1, hl, i1, i2⟩ := id hI
    dsimp only at *
    have hsh : SeqAt.shaped (.list l) = true := Lay.sh (Lay.lst (n := 1) fun d hd => let ⟨i, e⟩ := i1 d hd; e ▸ Lay.int i) (by decide)
    refine ⟨S ++ [DrO z, .lst l, .lst f], ?_, ?_⟩
    · simp [Z.r_var, Z.r_varK, Z.r_C, Z.r_fn, Z.r_yes, Z.rd_d, Z.rd_r, Z.rdK_l, Z.rdK_f, Z.r_on1, Z.r_on2, Z.o1_s, Z.o2_s, Z.r_outN, Z.oK_v, Z.oK_l, Z.r_m1, Z.m1_o, Z.r_m2, Z.m2_o, Z.m2_p, Z.r_mB, Z.mB_o, Z.r_nil, Z.r_cons, Z.cn_o, Z.cn_p, Z.a1_s, Z.a2_s, Z.pu_nil, Z.pu_cons, Z.puK_s, Z.r_tup, Z.r_lst, Z.tp_s, Z.lt_s, Z.okLen_if, Z.r_fz, Z.fz_d, Z.fz_f, Z.fz_s, Z.fz_r, Z.fzR_l, Z.fzR_f, Z.r_T, Z.t_o, Z.tL_b, Z.r_not, Z.nt_o, Z.r_and, Z.r_or, Z.an_t, Z.an_f, Z.or_t, Z.or_f, Z.r_seq, Z.sq_n, Z.sq_r, Z.sq_b, Z.sq_c, Z.r_drop, Z.dr_o, Z.r_ret, Z.rt_o, Z.r_retN, Z.r_if, Z.if_o, Z.if_t', Z.if_f', Z.r_skip, Z.r_bk, Z.r_ct, Z.r_set, Z.st_o, Z.r_asg, Z.as_o, Z.as_p, Z.g_nm, Z.g_tp, Z.g_nil, Z.g_cons, Z.gc_o, Z.r_par, Z.pr_o, Z.pr_p, Z.sA_nil, Z.sA_cons, Z.r_fnM, Z.fn_n, Z.fn_d, Z.fn_r, Z.fr_l, Z.fr_f, Z.fr_i, Z.r_call, Z.cl_o, Z.r_callV, Z.cv_s, Z.in_r, Z.in_s, Z.r_fld, Z.fd_o, Z.fd_p, Z.fd_q, Z.r_setF, Z.sf_o, Z.sf_p, Z.sf_q, Z.r_meth, Z.mt_o, Z.mt_p, Z.mt_q, Z.r_make, Z.mk_o, Z.mk_p, Z.r_mt, Z.mm_o, Z.mm_p, Z.mm_q, Z.mm_r, Z.mm_s, Z.f_app, Z.f_ext, Z.ex_s, Z.f_popAt, Z.r_setIx, Z.si_o, Z.si_p, Z.si_q, Z.si_r, Z.sl_s, Z.r_augIx, Z.ai_o, Z.ai_p, Z.ai_q, Z.ai_r, Z.ai_s, Z.r_getL, Z.gl_s, Z.ip_add, Z.ip_sub, Z.r_aug, Z.ag_o, Z.ag_p, Z.ag_q, Z.r_ifE, Z.i_t, Z.i_f, Z.i_o, Z.r_andV, Z.av_o, Z.av_t, Z.av_f, Z.onB_K, Z.oBK_s, Z.r_chain, Z.ch_a, Z.ch_b, Z.ch_t, Z.ch_f, Z.ch_d, Z.ch_e, Z.r_chain3, Z.c3_a, Z.c3_b, Z.c3_t, Z.c3_f, Z.c3_d, Z.r_sl, Z.sl_a, Z.sl_b, Z.sl_c, Z.pt_n, Z.pt_s, Z.pt_o, Z.pt_i, Z.gs_d, Z.gs_r, Z.gs_s, Z.gSl_l, Z.gSl_t, Z.r_it, Z.it_l, Z.it_t, Z.r_enum, Z.en_l, Z.en_t, Z.r_rng1, Z.r_rng2, Z.r1_o, Z.r2_o, Z.r_for, Z.fo_o, Z.bd_o, Z.for_nil, Z.fl_n, Z.fl_c, Z.fl_b, Z.fl_r, Z.wc_t, Z.wc_f, Z.wb_n, Z.wb_r, Z.lc_nil, Z.lc_z, Z.lc_t, Z.lc_f, Z.lc_b, Z.lc_c, Z.r_lc, Z.lm_o, Z.lm_p, Z.gAdd_ii, Z.gAdd_ll, Z.gAdd_tt, Z.gSub_ii, Z.gMul_ii, Z.gDiv_ii, Z.gMod_ii, Z.gPow_ii, Z.gNeg_i, Z.bV_s, Z.gIx_l, Z.gIx_t, Z.gLen_l, Z.gLen_t, Z.gTup_l, Z.gTup_t, Z.gLst_l, Z.gLst_t, Z.gInt_i, Z.gInt_b, Z.gAbs_i, Z.gNot_b, Z.gZip_tt, Z.gZip_ll, Z.gAll_l, Z.gAny_l, Z.gSum_l, Z.gLRg1, Z.atI_0, Z.atI_1, Z.atI_2, Z.atI_3, Z.gS0, Z.gSj, Z.tS0, Z.tSj, Z.sS0, Z.sSj, Z.tSe, Z.r_lc2, Z.l2_o, Z.tL_l, Z.tL_t, Z.tL_i, Z.blsOf_true, Z.all_true, gEq_ii, gNe_ii, gEq_bb, gNe_bb, gLt_ii, gLe_ii, gGt_ii, gGe_ii, sub_sub_drop, HT.sIx_none, take_self, take_set, len_set, set_set, r_setL, putD, ixN, rkF]
    · by_cases hf : rkF (z, l, f) = true
      · rw [if_pos hf]
        exact ⟨rfl, rfl, hI⟩
      · have hf : rkF (z, l, f) = false := by simpa using hf
        rw [if_neg (by rw [hf]; exact Bool.false_ne_true)]
        obtain ⟨s1, s2⟩ := hI.step hf
        refine ⟨s2, _, _, ?_, rfl, rfl, s1⟩
        have hn : 0 < l.length := by
          cases l with
          | nil => simp [rkF] at hf
          | cons x l => simp
        have hd := dr_rng (z := nxt z) (m := l.length) (by omega)
        have hi : (dr (nxt z) l.length).toNat < l.length := by omega
        have he : l[(dr (nxt z) l.length).toNat]? = some l[(dr (nxt z) l.length).toNat] := List.getElem?_eq_getElem hi
        have hp := po_ok (ys := l) hd.1 hd.2 (by omega)
        have hq : f.length < 16777216 := by omega
        have hm : (0 : Int) < l.length := by omega
        simp [Z.r_var, Z.r_varK, Z.r_C, Z.r_fn, Z.r_yes, Z.rd_d, Z.rd_r, Z.rdK_l, Z.rdK_f, Z.r_on1, Z.r_on2, Z.o1_s, Z.o2_s, Z.r_outN, Z.oK_v, Z.oK_l, Z.r_m1, Z.m1_o, Z.r_m2, Z.m2_o, Z.m2_p, Z.r_mB, Z.mB_o, Z.r_nil, Z.r_cons, Z.cn_o, Z.cn_p, Z.a1_s, Z.a2_s, Z.pu_nil, Z.pu_cons, Z.puK_s, Z.r_tup, Z.r_lst, Z.tp_s, Z.lt_s, Z.okLen_if, Z.r_fz, Z.fz_d, Z.fz_f, Z.fz_s, Z.fz_r, Z.fzR_l, Z.fzR_f, Z.r_T, Z.t_o, Z.tL_b, Z.r_not, Z.nt_o, Z.r_and, Z.r_or, Z.an_t, Z.an_f, Z.or_t, Z.or_f, Z.r_seq, Z.sq_n, Z.sq_r, Z.sq_b, Z.sq_c, Z.r_drop, Z.dr_o, Z.r_ret, Z.rt_o, Z.r_retN, Z.r_if, Z.if_o, Z.if_t', Z.if_f', Z.r_skip, Z.r_bk, Z.r_ct, Z.r_set, Z.st_o, Z.r_asg, Z.as_o, Z.as_p, Z.g_nm, Z.g_tp, Z.g_nil, Z.g_cons, Z.gc_o, Z.r_par, Z.pr_o, Z.pr_p, Z.sA_nil, Z.sA_cons, Z.r_fnM, Z.fn_n, Z.fn_d, Z.fn_r, Z.fr_l, Z.fr_f, Z.fr_i, Z.r_call, Z.cl_o, Z.r_callV, Z.cv_s, Z.in_r, Z.in_s, Z.r_fld, Z.fd_o, Z.fd_p, Z.fd_q, Z.r_setF, Z.sf_o, Z.sf_p, Z.sf_q, Z.r_meth, Z.mt_o, Z.mt_p, Z.mt_q, Z.r_make, Z.mk_o, Z.mk_p, Z.r_mt, Z.mm_o, Z.mm_p, Z.mm_q, Z.mm_r, Z.mm_s, Z.f_app, Z.f_ext, Z.ex_s, Z.f_popAt, Z.r_setIx, Z.si_o, Z.si_p, Z.si_q, Z.si_r, Z.sl_s, Z.r_augIx, Z.ai_o, Z.ai_p, Z.ai_q, Z.ai_r, Z.ai_s, Z.r_getL, Z.gl_s, Z.ip_add, Z.ip_sub, Z.r_aug, Z.ag_o, Z.ag_p, Z.ag_q, Z.r_ifE, Z.i_t, Z.i_f, Z.i_o, Z.r_andV, Z.av_o, Z.av_t, Z.av_f, Z.onB_K, Z.oBK_s, Z.r_chain, Z.ch_a, Z.ch_b, Z.ch_t, Z.ch_f, Z.ch_d, Z.ch_e, Z.r_chain3, Z.c3_a, Z.c3_b, Z.c3_t, Z.c3_f, Z.c3_d, Z.r_sl, Z.sl_a, Z.sl_b, Z.sl_c, Z.pt_n, Z.pt_s, Z.pt_o, Z.pt_i, Z.gs_d, Z.gs_r, Z.gs_s, Z.gSl_l, Z.gSl_t, Z.r_it, Z.it_l, Z.it_t, Z.r_enum, Z.en_l, Z.en_t, Z.r_rng1, Z.r_rng2, Z.r1_o, Z.r2_o, Z.r_for, Z.fo_o, Z.bd_o, Z.for_nil, Z.fl_n, Z.fl_c, Z.fl_b, Z.fl_r, Z.wc_t, Z.wc_f, Z.wb_n, Z.wb_r, Z.lc_nil, Z.lc_z, Z.lc_t, Z.lc_f, Z.lc_b, Z.lc_c, Z.r_lc, Z.lm_o, Z.lm_p, Z.gAdd_ii, Z.gAdd_ll, Z.gAdd_tt, Z.gSub_ii, Z.gMul_ii, Z.gDiv_ii, Z.gMod_ii, Z.gPow_ii, Z.gNeg_i, Z.bV_s, Z.gIx_l, Z.gIx_t, Z.gLen_l, Z.gLen_t, Z.gTup_l, Z.gTup_t, Z.gLst_l, Z.gLst_t, Z.gInt_i, Z.gInt_b, Z.gAbs_i, Z.gNot_b, Z.gZip_tt, Z.gZip_ll, Z.gAll_l, Z.gAny_l, Z.gSum_l, Z.gLRg1, Z.atI_0, Z.atI_1, Z.atI_2, Z.atI_3, Z.gS0, Z.gSj, Z.tS0, Z.tSj, Z.sS0, Z.sSj, Z.tSe, Z.r_lc2, Z.l2_o, Z.tL_l, Z.tL_t, Z.tL_i, Z.blsOf_true, Z.all_true, gEq_ii, gNe_ii, gEq_bb, gNe_bb, gLt_ii, gLe_ii, gGt_ii, gGe_ii, sub_sub_drop, HT.sIx_none, take_self, take_set, len_set, set_set, r_setL, putD, ixN, rkS, mtT, dt0 z0 z1 hm, hp, hq, he]
  · rintro ⟨z, l, f⟩ E S' ⟨rfl, rfl, hI⟩ hf ⟨k, hk1, hk2⟩
    have hl : l = [] := by simpa [rkF] using hf
    refine ⟨f, ⟨k, by rw [← hk1], by rw [← hk1]; exact hf, hk2⟩, ⟨by simp, by simp, by have := hI.l; simp at *; omega, (fun d hd => by cases hd), hI.i2⟩, ?_⟩
    simp [Z.r_var, Z.r_varK, Z.r_C, Z.r_fn, Z.r_yes, Z.rd_d, Z.rd_r, Z.rdK_l, Z.rdK_f, Z.r_on1, Z.r_on2, Z.o1_s, Z.o2_s, Z.r_outN, Z.oK_v, Z.oK_l, Z.r_m1, Z.m1_o, Z.r_m2, Z.m2_o, Z.m2_p, Z.r_mB, Z.mB_o, Z.r_nil, Z.r_cons, Z.cn_o, Z.cn_p, Z.a1_s, Z.a2_s, Z.pu_nil, Z.pu_cons, Z.puK_s, Z.r_tup, Z.r_lst, Z.tp_s, Z.lt_s, Z.okLen_if, Z.r_fz, Z.fz_d, Z.fz_f, Z.fz_s, Z.fz_r, Z.fzR_l, Z.fzR_f, Z.r_T, Z.t_o, Z.tL_b, Z.r_not, Z.nt_o, Z.r_and, Z.r_or, Z.an_t, Z.an_f, Z.or_t, Z.or_f, Z.r_seq, Z.sq_n, Z.sq_r, Z.sq_b, Z.sq_c, Z.r_drop, Z.dr_o, Z.r_ret, Z.rt_o, Z.r_retN, Z.r_if, Z.if_o, Z.if_t', Z.if_f', Z.r_skip, Z.r_bk, Z.r_ct, Z.r_set, Z.st_o, Z.r_asg, Z.as_o, Z.as_p, Z.g_nm, Z.g_tp, Z.g_nil, Z.g_cons, Z.gc_o, Z.r_par, Z.pr_o, Z.pr_p, Z.sA_nil, Z.sA_cons, Z.r_fnM, Z.fn_n, Z.fn_d, Z.fn_r, Z.fr_l, Z.fr_f, Z.fr_i, Z.r_call, Z.cl_o, Z.r_callV, Z.cv_s, Z.in_r, Z.in_s, Z.r_fld, Z.fd_o, Z.fd_p, Z.fd_q, Z.r_setF, Z.sf_o, Z.sf_p, Z.sf_q, Z.r_meth, Z.mt_o, Z.mt_p, Z.mt_q, Z.r_make, Z.mk_o, Z.mk_p, Z.r_mt, Z.mm_o, Z.mm_p, Z.mm_q, Z.mm_r, Z.mm_s, Z.f_app, Z.f_ext, Z.ex_s, Z.f_popAt, Z.r_setIx, Z.si_o, Z.si_p, Z.si_q, Z.si_r, Z.sl_s, Z.r_augIx, Z.ai_o, Z.ai_p, Z.ai_q, Z.ai_r, Z.ai_s, Z.r_getL, Z.gl_s, Z.ip_add, Z.ip_sub, Z.r_aug, Z.ag_o, Z.ag_p, Z.ag_q, Z.r_ifE, Z.i_t, Z.i_f, Z.i_o, Z.r_andV, Z.av_o, Z.av_t, Z.av_f, Z.onB_K, Z.oBK_s, Z.r_chain, Z.ch_a, Z.ch_b, Z.ch_t, Z.ch_f, Z.ch_d, Z.ch_e, Z.r_chain3, Z.c3_a, Z.c3_b, Z.c3_t, Z.c3_f, Z.c3_d, Z.r_sl, Z.sl_a, Z.sl_b, Z.sl_c, Z.pt_n, Z.pt_s, Z.pt_o, Z.pt_i, Z.gs_d, Z.gs_r, Z.gs_s, Z.gSl_l, Z.gSl_t, Z.r_it, Z.it_l, Z.it_t, Z.r_enum, Z.en_l, Z.en_t, Z.r_rng1, Z.r_rng2, Z.r1_o, Z.r2_o, Z.r_for, Z.fo_o, Z.bd_o, Z.for_nil, Z.fl_n, Z.fl_c, Z.fl_b, Z.fl_r, Z.wc_t, Z.wc_f, Z.wb_n, Z.wb_r, Z.lc_nil, Z.lc_z, Z.lc_t, Z.lc_f, Z.lc_b, Z.lc_c, Z.r_lc, Z.lm_o, Z.lm_p, Z.gAdd_ii, Z.gAdd_ll, Z.gAdd_tt, Z.gSub_ii, Z.gMul_ii, Z.gDiv_ii, Z.gMod_ii, Z.gPow_ii, Z.gNeg_i, Z.bV_s, Z.gIx_l, Z.gIx_t, Z.gLen_l, Z.gLen_t, Z.gTup_l, Z.gTup_t, Z.gLst_l, Z.gLst_t, Z.gInt_i, Z.gInt_b, Z.gAbs_i, Z.gNot_b, Z.gZip_tt, Z.gZip_ll, Z.gAll_l, Z.gAny_l, Z.gSum_l, Z.gLRg1, Z.atI_0, Z.atI_1, Z.atI_2, Z.atI_3, Z.gS0, Z.gSj, Z.tS0, Z.tSj, Z.sS0, Z.sSj, Z.tSe, Z.r_lc2, Z.l2_o, Z.tL_l, Z.tL_t, Z.tL_i, Z.blsOf_true, Z.all_true, gEq_ii, gNe_ii, gEq_bb, gNe_bb, gLt_ii, gLe_ii, gGt_ii, gGe_ii, sub_sub_drop, HT.sIx_none, take_self, take_set, len_set, set_set, r_setL, putD, ixN]
theorem own_rank_ok {S : Sto} {seed n : Int} (h0 : 0 ≤ n) (h1 : n ≤ 1000) : ∃ L, RK (seed % 2147483647, rgD 0 n.toNat, []) L ∧ RkI (0, [], L) ∧ p__law_own_rank [.d (.int seed), .d (.int n)] S = .ok (.d (.tuple L)) S := by
  have hI0 : RkI (seed % 2147483647, rgD 0 n.toNat, []) := ⟨(emod_rng _ (by omega)).1, (emod_rng _ (by omega)).2, by simp [rgD_len]; omega, fun d hd => let ⟨i, e, _⟩ := mem_rgD hd; ⟨i, e⟩, fun d hd => by cases hd⟩
  have hrg : rgOk 0 n = true := by
    unfold rgOk
    rw [sm62 (by omega) (by omega), sm62 (by omega) (by omega), decide_eq_true (by omega)]
    rfl
  unfold p__law_own_rank
  simp [m__law_own_rank, Z.r_var, Z.r_varK, Z.r_C, Z.r_fn, Z.r_yes, Z.rd_d, Z.rd_r, Z.rdK_l, Z.rdK_f, Z.r_on1, Z.r_on2, Z.o1_s, Z.o2_s, Z.r_outN, Z.oK_v, Z.oK_l, Z.r_m1, Z.m1_o, Z.r_m2, Z.m2_o, Z.m2_p, Z.r_mB, Z.mB_o, Z.r_nil, Z.r_cons, Z.cn_o, Z.cn_p, Z.a1_s, Z.a2_s, Z.pu_nil, Z.pu_cons, Z.puK_s, Z.r_tup, Z.r_lst, Z.tp_s, Z.lt_s, Z.okLen_if, Z.r_fz, Z.fz_d, Z.fz_f, Z.fz_s, Z.fz_r, Z.fzR_l, Z.fzR_f, Z.r_T, Z.t_o, Z.tL_b, Z.r_not, Z.nt_o, Z.r_and, Z.r_or, Z.an_t, Z.an_f, Z.or_t, Z.or_f, Z.r_seq, Z.sq_n, Z.sq_r, Z.sq_b, Z.sq_c, Z.r_drop, Z.dr_o, Z.r_ret, Z.rt_o, Z.r_retN, Z.r_if, Z.if_o, Z.if_t', Z.if_f', Z.r_skip, Z.r_bk, Z.r_ct, Z.r_set, Z.st_o, Z.r_asg, Z.as_o, Z.as_p, Z.g_nm, Z.g_tp, Z.g_nil, Z.g_cons, Z.gc_o, Z.r_par, Z.pr_o, Z.pr_p, Z.sA_nil, Z.sA_cons, Z.r_fnM, Z.fn_n, Z.fn_d, Z.fn_r, Z.fr_l, Z.fr_f, Z.fr_i, Z.r_call, Z.cl_o, Z.r_callV, Z.cv_s, Z.in_r, Z.in_s, Z.r_fld, Z.fd_o, Z.fd_p, Z.fd_q, Z.r_setF, Z.sf_o, Z.sf_p, Z.sf_q, Z.r_meth, Z.mt_o, Z.mt_p, Z.mt_q, Z.r_make, Z.mk_o, Z.mk_p, Z.r_mt, Z.mm_o, Z.mm_p, Z.mm_q, Z.mm_r, Z.mm_s, Z.f_app, Z.f_ext, Z.ex_s, Z.f_popAt, Z.r_setIx, Z.si_o, Z.si_p, Z.si_q, Z.si_r, Z.sl_s, Z.r_augIx, Z.ai_o, Z.ai_p, Z.ai_q, Z.ai_r, Z.ai_s, Z.r_getL, Z.gl_s, Z.ip_add, Z.ip_sub, Z.r_aug, Z.ag_o, Z.ag_p, Z.ag_q, Z.r_ifE, Z.i_t, Z.i_f, Z.i_o, Z.r_andV, Z.av_o, Z.av_t, Z.av_f, Z.onB_K, Z.oBK_s, Z.r_chain, Z.ch_a, Z.ch_b, Z.ch_t, Z.ch_f, Z.ch_d, Z.ch_e, Z.r_chain3, Z.c3_a, Z.c3_b, Z.c3_t, Z.c3_f, Z.c3_d, Z.r_sl, Z.sl_a, Z.sl_b, Z.sl_c, Z.pt_n, Z.pt_s, Z.pt_o, Z.pt_i, Z.gs_d, Z.gs_r, Z.gs_s, Z.gSl_l, Z.gSl_t, Z.r_it, Z.it_l, Z.it_t, Z.r_enum, Z.en_l, Z.en_t, Z.r_rng1, Z.r_rng2, Z.r1_o, Z.r2_o, Z.r_for, Z.fo_o, Z.bd_o, Z.for_nil, Z.fl_n, Z.fl_c, Z.fl_b, Z.fl_r, Z.wc_t, Z.wc_f, Z.wb_n, Z.wb_r, Z.lc_nil, Z.lc_z, Z.lc_t, Z.lc_f, Z.lc_b, Z.lc_c, Z.r_lc, Z.lm_o, Z.lm_p, Z.gAdd_ii, Z.gAdd_ll, Z.gAdd_tt, Z.gSub_ii, Z.gMul_ii, Z.gDiv_ii, Z.gMod_ii, Z.gPow_ii, Z.gNeg_i, Z.bV_s, Z.gIx_l, Z.gIx_t, Z.gLen_l, Z.gLen_t, Z.gTup_l, Z.gTup_t, Z.gLst_l, Z.gLst_t, Z.gInt_i, Z.gInt_b, Z.gAbs_i, Z.gNot_b, Z.gZip_tt, Z.gZip_ll, Z.gAll_l, Z.gAny_l, Z.gSum_l, Z.gLRg1, Z.atI_0, Z.atI_1, Z.atI_2, Z.atI_3, Z.gS0, Z.gSj, Z.tS0, Z.tSj, Z.sS0, Z.sSj, Z.tSe, Z.r_lc2, Z.l2_o, Z.tL_l, Z.tL_t, Z.tL_i, Z.blsOf_true, Z.all_true, gEq_ii, gNe_ii, gEq_bb, gNe_bb, gLt_ii, gLe_ii, gGt_ii, gGe_ii, sub_sub_drop, HT.sIx_none, take_self, take_set, len_set, set_set, r_setL, putD, ixN, law_begun_ok, hrg]
  refine wh_thenP (fun r => ∃ L, RK (seed % 2147483647, rgD 0 n.toNat, []) L ∧ RkI (0, [], L) ∧ r = .ok (.d (.tuple L)) S) (fun o => fnK S.length (sqK _ o))
    (fun s E S' => E = [some (.d (.int seed)), some (.d (.int n)), some (.r S.length), some (.r (S.length + 1)), some (.r (S.length + 2))] ∧ S' = S ++ [OwO s.1, .lst s.2.1, .lst s.2.2] ∧ RkI s) (fun s => s.2.1.length) rkS rkF (seed % 2147483647, rgD 0 n.toNat, []) ?_ ?_ ?_ ?_
  · simp [rgD_len]; omega
  · exact ⟨rfl, rfl, hI0⟩
  · rintro ⟨z, l, f⟩ E S' ⟨rfl, rfl, hI⟩
    obtain ⟨z0, z1, hl, i1, i2⟩ := id hI
    dsimp only at *
    have hsh : SeqAt.shaped (.list l) = true := Lay.sh (Lay.lst (n := 1) fun d hd => let ⟨i, e⟩ := i1 d hd; e ▸ Lay.int i) (by decide)
    refine ⟨S ++ [OwO z, .lst l, .lst f], ?_, ?_⟩
    · simp [Z.r_var, Z.r_varK, Z.r_C, Z.r_fn, Z.r_yes, Z.rd_d, Z.rd_r, Z.rdK_l, Z.rdK_f, Z.r_on1, Z.r_on2, Z.o1_s, Z.o2_s, Z.r_outN, Z.oK_v, Z.oK_l, Z.r_m1, Z.m1_o, Z.r_m2, Z.m2_o, Z.m2_p, Z.r_mB, Z.mB_o, Z.r_nil, Z.r_cons, Z.cn_o, Z.cn_p, Z.a1_s, Z.a2_s, Z.pu_nil, Z.pu_cons, Z.puK_s, Z.r_tup, Z.r_lst, Z.tp_s, Z.lt_s, Z.okLen_if, Z.r_fz, Z.fz_d, Z.fz_f, Z.fz_s, Z.fz_r, Z.fzR_l, Z.fzR_f, Z.r_T, Z.t_o, Z.tL_b, Z.r_not, Z.nt_o, Z.r_and, Z.r_or, Z.an_t, Z.an_f, Z.or_t, Z.or_f, Z.r_seq, Z.sq_n, Z.sq_r, Z.sq_b, Z.sq_c, Z.r_drop, Z.dr_o, Z.r_ret, Z.rt_o, Z.r_retN, Z.r_if, Z.if_o, Z.if_t', Z.if_f', Z.r_skip, Z.r_bk, Z.r_ct, Z.r_set, Z.st_o, Z.r_asg, Z.as_o, Z.as_p, Z.g_nm, Z.g_tp, Z.g_nil, Z.g_cons, Z.gc_o, Z.r_par, Z.pr_o, Z.pr_p, Z.sA_nil, Z.sA_cons, Z.r_fnM, Z.fn_n, Z.fn_d, Z.fn_r, Z.fr_l, Z.fr_f, Z.fr_i, Z.r_call, Z.cl_o, Z.r_callV, Z.cv_s, Z.in_r, Z.in_s, Z.r_fld, Z.fd_o, Z.fd_p, Z.fd_q, Z.r_setF, Z.sf_o, Z.sf_p, Z.sf_q, Z.r_meth, Z.mt_o, Z.mt_p, Z.mt_q, Z.r_make, Z.mk_o, Z.mk_p, Z.r_mt, Z.mm_o, Z.mm_p, Z.mm_q, Z.mm_r, Z.mm_s, Z.f_app, Z.f_ext, Z.ex_s, Z.f_popAt, Z.r_setIx, Z.si_o, Z.si_p, Z.si_q, Z.si_r, Z.sl_s, Z.r_augIx, Z.ai_o, Z.ai_p, Z.ai_q, Z.ai_r, Z.ai_s, Z.r_getL, Z.gl_s, Z.ip_add, Z.ip_sub, Z.r_aug, Z.ag_o, Z.ag_p, Z.ag_q, Z.r_ifE, Z.i_t, Z.i_f, Z.i_o, Z.r_andV, Z.av_o, Z.av_t, Z.av_f, Z.onB_K, Z.oBK_s, Z.r_chain, Z.ch_a, Z.ch_b, Z.ch_t, Z.ch_f, Z.ch_d, Z.ch_e, Z.r_chain3, Z.c3_a, Z.c3_b, Z.c3_t, Z.c3_f, Z.c3_d, Z.r_sl, Z.sl_a, Z.sl_b, Z.sl_c, Z.pt_n, Z.pt_s, Z.pt_o, Z.pt_i, Z.gs_d, Z.gs_r, Z.gs_s, Z.gSl_l, Z.gSl_t, Z.r_it, Z.it_l, Z.it_t, Z.r_enum, Z.en_l, Z.en_t, Z.r_rng1, Z.r_rng2, Z.r1_o, Z.r2_o, Z.r_for, Z.fo_o, Z.bd_o, Z.for_nil, Z.fl_n, Z.fl_c, Z.fl_b, Z.fl_r, Z.wc_t, Z.wc_f, Z.wb_n, Z.wb_r, Z.lc_nil, Z.lc_z, Z.lc_t, Z.lc_f, Z.lc_b, Z.lc_c, Z.r_lc, Z.lm_o, Z.lm_p, Z.gAdd_ii, Z.gAdd_ll, Z.gAdd_tt, Z.gSub_ii, Z.gMul_ii, Z.gDiv_ii, Z.gMod_ii, Z.gPow_ii, Z.gNeg_i, Z.bV_s, Z.gIx_l, Z.gIx_t, Z.gLen_l, Z.gLen_t, Z.gTup_l, Z.gTup_t, Z.gLst_l, Z.gLst_t, Z.gInt_i, Z.gInt_b, Z.gAbs_i, Z.gNot_b, Z.gZip_tt, Z.gZip_ll, Z.gAll_l, Z.gAny_l, Z.gSum_l, Z.gLRg1, Z.atI_0, Z.atI_1, Z.atI_2, Z.atI_3, Z.gS0, Z.gSj, Z.tS0, Z.tSj, Z.sS0, Z.sSj, Z.tSe, Z.r_lc2, Z.l2_o, Z.tL_l, Z.tL_t, Z.tL_i, Z.blsOf_true, Z.all_true, gEq_ii, gNe_ii, gEq_bb, gNe_bb, gLt_ii, gLe_ii, gGt_ii, gGe_ii, sub_sub_drop, HT.sIx_none, take_self, take_set, len_set, set_set, r_setL, putD, ixN, rkF, gNe_nil hsh]
    · by_cases hf : rkF (z, l, f) = true
      · rw [if_pos hf]
        exact ⟨rfl, rfl, hI⟩
      · have hf : rkF (z, l, f) = false := by simpa using hf
        rw [if_neg (by rw [hf]; exact Bool.false_ne_true)]
        obtain ⟨s1, s2⟩ := hI.step hf
        refine ⟨s2, _, _, ?_, rfl, rfl, s1⟩
        have hn : 0 < l.length := by
          cases l with
          | nil => simp [rkF] at hf
          | cons x l => simp
        have hd := dr_rng (z := nxt z) (m := l.length) (by omega)
        have hi : (dr (nxt z) l.length).toNat < l.length := by omega
        have he : l[(dr (nxt z) l.length).toNat]? = some l[(dr (nxt z) l.length).toNat] := List.getElem?_eq_getElem hi
        have hp := po_ok (ys := l) hd.1 hd.2 (by omega)
        have hq : f.length < 16777216 := by omega
        have hm : (0 : Int) < l.length := by omega
        simp [Z.r_var, Z.r_varK, Z.r_C, Z.r_fn, Z.r_yes, Z.rd_d, Z.rd_r, Z.rdK_l, Z.rdK_f, Z.r_on1, Z.r_on2, Z.o1_s, Z.o2_s, Z.r_outN, Z.oK_v, Z.oK_l, Z.r_m1, Z.m1_o, Z.r_m2, Z.m2_o, Z.m2_p, Z.r_mB, Z.mB_o, Z.r_nil, Z.r_cons, Z.cn_o, Z.cn_p, Z.a1_s, Z.a2_s, Z.pu_nil, Z.pu_cons, Z.puK_s, Z.r_tup, Z.r_lst, Z.tp_s, Z.lt_s, Z.okLen_if, Z.r_fz, Z.fz_d, Z.fz_f, Z.fz_s, Z.fz_r, Z.fzR_l, Z.fzR_f, Z.r_T, Z.t_o, Z.tL_b, Z.r_not, Z.nt_o, Z.r_and, Z.r_or, Z.an_t, Z.an_f, Z.or_t, Z.or_f, Z.r_seq, Z.sq_n, Z.sq_r, Z.sq_b, Z.sq_c, Z.r_drop, Z.dr_o, Z.r_ret, Z.rt_o, Z.r_retN, Z.r_if, Z.if_o, Z.if_t', Z.if_f', Z.r_skip, Z.r_bk, Z.r_ct, Z.r_set, Z.st_o, Z.r_asg, Z.as_o, Z.as_p, Z.g_nm, Z.g_tp, Z.g_nil, Z.g_cons, Z.gc_o, Z.r_par, Z.pr_o, Z.pr_p, Z.sA_nil, Z.sA_cons, Z.r_fnM, Z.fn_n, Z.fn_d, Z.fn_r, Z.fr_l, Z.fr_f, Z.fr_i, Z.r_call, Z.cl_o, Z.r_callV, Z.cv_s, Z.in_r, Z.in_s, Z.r_fld, Z.fd_o, Z.fd_p, Z.fd_q, Z.r_setF, Z.sf_o, Z.sf_p, Z.sf_q, Z.r_meth, Z.mt_o, Z.mt_p, Z.mt_q, Z.r_make, Z.mk_o, Z.mk_p, Z.r_mt, Z.mm_o, Z.mm_p, Z.mm_q, Z.mm_r, Z.mm_s, Z.f_app, Z.f_ext, Z.ex_s, Z.f_popAt, Z.r_setIx, Z.si_o, Z.si_p, Z.si_q, Z.si_r, Z.sl_s, Z.r_augIx, Z.ai_o, Z.ai_p, Z.ai_q, Z.ai_r, Z.ai_s, Z.r_getL, Z.gl_s, Z.ip_add, Z.ip_sub, Z.r_aug, Z.ag_o, Z.ag_p, Z.ag_q, Z.r_ifE, Z.i_t, Z.i_f, Z.i_o, Z.r_andV, Z.av_o, Z.av_t, Z.av_f, Z.onB_K, Z.oBK_s, Z.r_chain, Z.ch_a, Z.ch_b, Z.ch_t, Z.ch_f, Z.ch_d, Z.ch_e, Z.r_chain3, Z.c3_a, Z.c3_b, Z.c3_t, Z.c3_f, Z.c3_d, Z.r_sl, Z.sl_a, Z.sl_b, Z.sl_c, Z.pt_n, Z.pt_s, Z.pt_o, Z.pt_i, Z.gs_d, Z.gs_r, Z.gs_s, Z.gSl_l, Z.gSl_t, Z.r_it, Z.it_l, Z.it_t, Z.r_enum, Z.en_l, Z.en_t, Z.r_rng1, Z.r_rng2, Z.r1_o, Z.r2_o, Z.r_for, Z.fo_o, Z.bd_o, Z.for_nil, Z.fl_n, Z.fl_c, Z.fl_b, Z.fl_r, Z.wc_t, Z.wc_f, Z.wb_n, Z.wb_r, Z.lc_nil, Z.lc_z, Z.lc_t, Z.lc_f, Z.lc_b, Z.lc_c, Z.r_lc, Z.lm_o, Z.lm_p, Z.gAdd_ii, Z.gAdd_ll, Z.gAdd_tt, Z.gSub_ii, Z.gMul_ii, Z.gDiv_ii, Z.gMod_ii, Z.gPow_ii, Z.gNeg_i, Z.bV_s, Z.gIx_l, Z.gIx_t, Z.gLen_l, Z.gLen_t, Z.gTup_l, Z.gTup_t, Z.gLst_l, Z.gLst_t, Z.gInt_i, Z.gInt_b, Z.gAbs_i, Z.gNot_b, Z.gZip_tt, Z.gZip_ll, Z.gAll_l, Z.gAny_l, Z.gSum_l, Z.gLRg1, Z.atI_0, Z.atI_1, Z.atI_2, Z.atI_3, Z.gS0, Z.gSj, Z.tS0, Z.tSj, Z.sS0, Z.sSj, Z.tSe, Z.r_lc2, Z.l2_o, Z.tL_l, Z.tL_t, Z.tL_i, Z.blsOf_true, Z.all_true, gEq_ii, gNe_ii, gEq_bb, gNe_bb, gLt_ii, gLe_ii, gGt_ii, gGe_ii, sub_sub_drop, HT.sIx_none, take_self, take_set, len_set, set_set, r_setL, putD, ixN, rkS, ld0 z0 z1 hm, hp, hq, he]
  · rintro ⟨z, l, f⟩ E S' ⟨rfl, rfl, hI⟩ hf ⟨k, hk1, hk2⟩
    have hl : l = [] := by simpa [rkF] using hf
    refine ⟨f, ⟨k, by rw [← hk1], by rw [← hk1]; exact hf, hk2⟩, ⟨by simp, by simp, by have := hI.l; simp at *; omega, (fun d hd => by cases hd), hI.i2⟩, ?_⟩
    simp [Z.r_var, Z.r_varK, Z.r_C, Z.r_fn, Z.r_yes, Z.rd_d, Z.rd_r, Z.rdK_l, Z.rdK_f, Z.r_on1, Z.r_on2, Z.o1_s, Z.o2_s, Z.r_outN, Z.oK_v, Z.oK_l, Z.r_m1, Z.m1_o, Z.r_m2, Z.m2_o, Z.m2_p, Z.r_mB, Z.mB_o, Z.r_nil, Z.r_cons, Z.cn_o, Z.cn_p, Z.a1_s, Z.a2_s, Z.pu_nil, Z.pu_cons, Z.puK_s, Z.r_tup, Z.r_lst, Z.tp_s, Z.lt_s, Z.okLen_if, Z.r_fz, Z.fz_d, Z.fz_f, Z.fz_s, Z.fz_r, Z.fzR_l, Z.fzR_f, Z.r_T, Z.t_o, Z.tL_b, Z.r_not, Z.nt_o, Z.r_and, Z.r_or, Z.an_t, Z.an_f, Z.or_t, Z.or_f, Z.r_seq, Z.sq_n, Z.sq_r, Z.sq_b, Z.sq_c, Z.r_drop, Z.dr_o, Z.r_ret, Z.rt_o, Z.r_retN, Z.r_if, Z.if_o, Z.if_t', Z.if_f', Z.r_skip, Z.r_bk, Z.r_ct, Z.r_set, Z.st_o, Z.r_asg, Z.as_o, Z.as_p, Z.g_nm, Z.g_tp, Z.g_nil, Z.g_cons, Z.gc_o, Z.r_par, Z.pr_o, Z.pr_p, Z.sA_nil, Z.sA_cons, Z.r_fnM, Z.fn_n, Z.fn_d, Z.fn_r, Z.fr_l, Z.fr_f, Z.fr_i, Z.r_call, Z.cl_o, Z.r_callV, Z.cv_s, Z.in_r, Z.in_s, Z.r_fld, Z.fd_o, Z.fd_p, Z.fd_q, Z.r_setF, Z.sf_o, Z.sf_p, Z.sf_q, Z.r_meth, Z.mt_o, Z.mt_p, Z.mt_q, Z.r_make, Z.mk_o, Z.mk_p, Z.r_mt, Z.mm_o, Z.mm_p, Z.mm_q, Z.mm_r, Z.mm_s, Z.f_app, Z.f_ext, Z.ex_s, Z.f_popAt, Z.r_setIx, Z.si_o, Z.si_p, Z.si_q, Z.si_r, Z.sl_s, Z.r_augIx, Z.ai_o, Z.ai_p, Z.ai_q, Z.ai_r, Z.ai_s, Z.r_getL, Z.gl_s, Z.ip_add, Z.ip_sub, Z.r_aug, Z.ag_o, Z.ag_p, Z.ag_q, Z.r_ifE, Z.i_t, Z.i_f, Z.i_o, Z.r_andV, Z.av_o, Z.av_t, Z.av_f, Z.onB_K, Z.oBK_s, Z.r_chain, Z.ch_a, Z.ch_b, Z.ch_t, Z.ch_f, Z.ch_d, Z.ch_e, Z.r_chain3, Z.c3_a, Z.c3_b, Z.c3_t, Z.c3_f, Z.c3_d, Z.r_sl, Z.sl_a, Z.sl_b, Z.sl_c, Z.pt_n, Z.pt_s, Z.pt_o, Z.pt_i, Z.gs_d, Z.gs_r, Z.gs_s, Z.gSl_l, Z.gSl_t, Z.r_it, Z.it_l, Z.it_t, Z.r_enum, Z.en_l, Z.en_t, Z.r_rng1, Z.r_rng2, Z.r1_o, Z.r2_o, Z.r_for, Z.fo_o, Z.bd_o, Z.for_nil, Z.fl_n, Z.fl_c, Z.fl_b, Z.fl_r, Z.wc_t, Z.wc_f, Z.wb_n, Z.wb_r, Z.lc_nil, Z.lc_z, Z.lc_t, Z.lc_f, Z.lc_b, Z.lc_c, Z.r_lc, Z.lm_o, Z.lm_p, Z.gAdd_ii, Z.gAdd_ll, Z.gAdd_tt, Z.gSub_ii, Z.gMul_ii, Z.gDiv_ii, Z.gMod_ii, Z.gPow_ii, Z.gNeg_i, Z.bV_s, Z.gIx_l, Z.gIx_t, Z.gLen_l, Z.gLen_t, Z.gTup_l, Z.gTup_t, Z.gLst_l, Z.gLst_t, Z.gInt_i, Z.gInt_b, Z.gAbs_i, Z.gNot_b, Z.gZip_tt, Z.gZip_ll, Z.gAll_l, Z.gAny_l, Z.gSum_l, Z.gLRg1, Z.atI_0, Z.atI_1, Z.atI_2, Z.atI_3, Z.gS0, Z.gSj, Z.tS0, Z.tSj, Z.sS0, Z.sSj, Z.tSe, Z.r_lc2, Z.l2_o, Z.tL_l, Z.tL_t, Z.tL_i, Z.blsOf_true, Z.all_true, gEq_ii, gNe_ii, gEq_bb, gNe_bb, gLt_ii, gLe_ii, gGt_ii, gGe_ii, sub_sub_drop, HT.sIx_none, take_self, take_set, len_set, set_set, r_setL, putD, ixN]

/-! deeds -/
def nms : List D := [.str "ash", .str "bea", .str "cid", .str "dot", .str "eli", .str "fay"]
def ddD (w : Int) (nm : D) (nb : Int) : D := if w < 5 then .tuple [.str "come", nm] else if w < 9 then .tuple [.str "go", nm] else if w < 11 then .tuple [.str "wait", .int nb] else .tuple [.str "shut"]
def nmD (z : Int) : D := (nms[(dr (nxt (nxt z)) 6).toNat]?).getD .none
def deedD (z : Int) : D := ddD (dr (nxt z) 12) (nmD z) (dr (nxt (nxt (nxt z))) 30)
theorem nm_at (z : Int) : atI nms (dr (nxt (nxt z)) 6) = some (nmD z) := by
  have h := dr_rng (z := nxt (nxt z)) (m := 6) (by omega)
  rw [atI_n h.1 (by simp [nms]; omega)]
  unfold nmD
  have hi : (dr (nxt (nxt z)) 6).toNat < nms.length := by simp [nms]; omega
  rw [List.getElem?_eq_getElem hi]
  rfl
theorem deed_by_ok {S : Sto} {w nb : Int} {nm : D} : p_deed_by [.d (.int w), .d nm, .d (.int nb)] S = .ok (.d (ddD w nm nb)) S := by
  unfold p_deed_by ddD
  by_cases h1 : w < 5
  · simp [m_deed_by, Z.r_var, Z.r_varK, Z.r_C, Z.r_fn, Z.r_yes, Z.rd_d, Z.rd_r, Z.rdK_l, Z.rdK_f, Z.r_on1, Z.r_on2, Z.o1_s, Z.o2_s, Z.r_outN, Z.oK_v, Z.oK_l, Z.r_m1, Z.m1_o, Z.r_m2, Z.m2_o, Z.m2_p, Z.r_mB, Z.mB_o, Z.r_nil, Z.r_cons, Z.cn_o, Z.cn_p, Z.a1_s, Z.a2_s, Z.pu_nil, Z.pu_cons, Z.puK_s, Z.r_tup, Z.r_lst, Z.tp_s, Z.lt_s, Z.okLen_if, Z.r_fz, Z.fz_d, Z.fz_f, Z.fz_s, Z.fz_r, Z.fzR_l, Z.fzR_f, Z.r_T, Z.t_o, Z.tL_b, Z.r_not, Z.nt_o, Z.r_and, Z.r_or, Z.an_t, Z.an_f, Z.or_t, Z.or_f, Z.r_seq, Z.sq_n, Z.sq_r, Z.sq_b, Z.sq_c, Z.r_drop, Z.dr_o, Z.r_ret, Z.rt_o, Z.r_retN, Z.r_if, Z.if_o, Z.if_t', Z.if_f', Z.r_skip, Z.r_bk, Z.r_ct, Z.r_set, Z.st_o, Z.r_asg, Z.as_o, Z.as_p, Z.g_nm, Z.g_tp, Z.g_nil, Z.g_cons, Z.gc_o, Z.r_par, Z.pr_o, Z.pr_p, Z.sA_nil, Z.sA_cons, Z.r_fnM, Z.fn_n, Z.fn_d, Z.fn_r, Z.fr_l, Z.fr_f, Z.fr_i, Z.r_call, Z.cl_o, Z.r_callV, Z.cv_s, Z.in_r, Z.in_s, Z.r_fld, Z.fd_o, Z.fd_p, Z.fd_q, Z.r_setF, Z.sf_o, Z.sf_p, Z.sf_q, Z.r_meth, Z.mt_o, Z.mt_p, Z.mt_q, Z.r_make, Z.mk_o, Z.mk_p, Z.r_mt, Z.mm_o, Z.mm_p, Z.mm_q, Z.mm_r, Z.mm_s, Z.f_app, Z.f_ext, Z.ex_s, Z.f_popAt, Z.r_setIx, Z.si_o, Z.si_p, Z.si_q, Z.si_r, Z.sl_s, Z.r_augIx, Z.ai_o, Z.ai_p, Z.ai_q, Z.ai_r, Z.ai_s, Z.r_getL, Z.gl_s, Z.ip_add, Z.ip_sub, Z.r_aug, Z.ag_o, Z.ag_p, Z.ag_q, Z.r_ifE, Z.i_t, Z.i_f, Z.i_o, Z.r_andV, Z.av_o, Z.av_t, Z.av_f, Z.onB_K, Z.oBK_s, Z.r_chain, Z.ch_a, Z.ch_b, Z.ch_t, Z.ch_f, Z.ch_d, Z.ch_e, Z.r_chain3, Z.c3_a, Z.c3_b, Z.c3_t, Z.c3_f, Z.c3_d, Z.r_sl, Z.sl_a, Z.sl_b, Z.sl_c, Z.pt_n, Z.pt_s, Z.pt_o, Z.pt_i, Z.gs_d, Z.gs_r, Z.gs_s, Z.gSl_l, Z.gSl_t, Z.r_it, Z.it_l, Z.it_t, Z.r_enum, Z.en_l, Z.en_t, Z.r_rng1, Z.r_rng2, Z.r1_o, Z.r2_o, Z.r_for, Z.fo_o, Z.bd_o, Z.for_nil, Z.fl_n, Z.fl_c, Z.fl_b, Z.fl_r, Z.wc_t, Z.wc_f, Z.wb_n, Z.wb_r, Z.lc_nil, Z.lc_z, Z.lc_t, Z.lc_f, Z.lc_b, Z.lc_c, Z.r_lc, Z.lm_o, Z.lm_p, Z.gAdd_ii, Z.gAdd_ll, Z.gAdd_tt, Z.gSub_ii, Z.gMul_ii, Z.gDiv_ii, Z.gMod_ii, Z.gPow_ii, Z.gNeg_i, Z.bV_s, Z.gIx_l, Z.gIx_t, Z.gLen_l, Z.gLen_t, Z.gTup_l, Z.gTup_t, Z.gLst_l, Z.gLst_t, Z.gInt_i, Z.gInt_b, Z.gAbs_i, Z.gNot_b, Z.gZip_tt, Z.gZip_ll, Z.gAll_l, Z.gAny_l, Z.gSum_l, Z.gLRg1, Z.atI_0, Z.atI_1, Z.atI_2, Z.atI_3, Z.gS0, Z.gSj, Z.tS0, Z.tSj, Z.sS0, Z.sSj, Z.tSe, Z.r_lc2, Z.l2_o, Z.tL_l, Z.tL_t, Z.tL_i, Z.blsOf_true, Z.all_true, gEq_ii, gNe_ii, gEq_bb, gNe_bb, gLt_ii, gLe_ii, gGt_ii, gGe_ii, sub_sub_drop, HT.sIx_none, take_self, take_set, len_set, set_set, r_setL, putD, ixN, h1]
  · by_cases h2 : w < 9
    · simp [m_deed_by, Z.r_var, Z.r_varK, Z.r_C, Z.r_fn, Z.r_yes, Z.rd_d, Z.rd_r, Z.rdK_l, Z.rdK_f, Z.r_on1, Z.r_on2, Z.o1_s, Z.o2_s, Z.r_outN, Z.oK_v, Z.oK_l, Z.r_m1, Z.m1_o, Z.r_m2, Z.m2_o, Z.m2_p, Z.r_mB, Z.mB_o, Z.r_nil, Z.r_cons, Z.cn_o, Z.cn_p, Z.a1_s, Z.a2_s, Z.pu_nil, Z.pu_cons, Z.puK_s, Z.r_tup, Z.r_lst, Z.tp_s, Z.lt_s, Z.okLen_if, Z.r_fz, Z.fz_d, Z.fz_f, Z.fz_s, Z.fz_r, Z.fzR_l, Z.fzR_f, Z.r_T, Z.t_o, Z.tL_b, Z.r_not, Z.nt_o, Z.r_and, Z.r_or, Z.an_t, Z.an_f, Z.or_t, Z.or_f, Z.r_seq, Z.sq_n, Z.sq_r, Z.sq_b, Z.sq_c, Z.r_drop, Z.dr_o, Z.r_ret, Z.rt_o, Z.r_retN, Z.r_if, Z.if_o, Z.if_t', Z.if_f', Z.r_skip, Z.r_bk, Z.r_ct, Z.r_set, Z.st_o, Z.r_asg, Z.as_o, Z.as_p, Z.g_nm, Z.g_tp, Z.g_nil, Z.g_cons, Z.gc_o, Z.r_par, Z.pr_o, Z.pr_p, Z.sA_nil, Z.sA_cons, Z.r_fnM, Z.fn_n, Z.fn_d, Z.fn_r, Z.fr_l, Z.fr_f, Z.fr_i, Z.r_call, Z.cl_o, Z.r_callV, Z.cv_s, Z.in_r, Z.in_s, Z.r_fld, Z.fd_o, Z.fd_p, Z.fd_q, Z.r_setF, Z.sf_o, Z.sf_p, Z.sf_q, Z.r_meth, Z.mt_o, Z.mt_p, Z.mt_q, Z.r_make, Z.mk_o, Z.mk_p, Z.r_mt, Z.mm_o, Z.mm_p, Z.mm_q, Z.mm_r, Z.mm_s, Z.f_app, Z.f_ext, Z.ex_s, Z.f_popAt, Z.r_setIx, Z.si_o, Z.si_p, Z.si_q, Z.si_r, Z.sl_s, Z.r_augIx, Z.ai_o, Z.ai_p, Z.ai_q, Z.ai_r, Z.ai_s, Z.r_getL, Z.gl_s, Z.ip_add, Z.ip_sub, Z.r_aug, Z.ag_o, Z.ag_p, Z.ag_q, Z.r_ifE, Z.i_t, Z.i_f, Z.i_o, Z.r_andV, Z.av_o, Z.av_t, Z.av_f, Z.onB_K, Z.oBK_s, Z.r_chain, Z.ch_a, Z.ch_b, Z.ch_t, Z.ch_f, Z.ch_d, Z.ch_e, Z.r_chain3, Z.c3_a, Z.c3_b, Z.c3_t, Z.c3_f, Z.c3_d, Z.r_sl, Z.sl_a, Z.sl_b, Z.sl_c, Z.pt_n, Z.pt_s, Z.pt_o, Z.pt_i, Z.gs_d, Z.gs_r, Z.gs_s, Z.gSl_l, Z.gSl_t, Z.r_it, Z.it_l, Z.it_t, Z.r_enum, Z.en_l, Z.en_t, Z.r_rng1, Z.r_rng2, Z.r1_o, Z.r2_o, Z.r_for, Z.fo_o, Z.bd_o, Z.for_nil, Z.fl_n, Z.fl_c, Z.fl_b, Z.fl_r, Z.wc_t, Z.wc_f, Z.wb_n, Z.wb_r, Z.lc_nil, Z.lc_z, Z.lc_t, Z.lc_f, Z.lc_b, Z.lc_c, Z.r_lc, Z.lm_o, Z.lm_p, Z.gAdd_ii, Z.gAdd_ll, Z.gAdd_tt, Z.gSub_ii, Z.gMul_ii, Z.gDiv_ii, Z.gMod_ii, Z.gPow_ii, Z.gNeg_i, Z.bV_s, Z.gIx_l, Z.gIx_t, Z.gLen_l, Z.gLen_t, Z.gTup_l, Z.gTup_t, Z.gLst_l, Z.gLst_t, Z.gInt_i, Z.gInt_b, Z.gAbs_i, Z.gNot_b, Z.gZip_tt, Z.gZip_ll, Z.gAll_l, Z.gAny_l, Z.gSum_l, Z.gLRg1, Z.atI_0, Z.atI_1, Z.atI_2, Z.atI_3, Z.gS0, Z.gSj, Z.tS0, Z.tSj, Z.sS0, Z.sSj, Z.tSe, Z.r_lc2, Z.l2_o, Z.tL_l, Z.tL_t, Z.tL_i, Z.blsOf_true, Z.all_true, gEq_ii, gNe_ii, gEq_bb, gNe_bb, gLt_ii, gLe_ii, gGt_ii, gGe_ii, sub_sub_drop, HT.sIx_none, take_self, take_set, len_set, set_set, r_setL, putD, ixN, h1, h2]
    · by_cases h3 : w < 11
      · simp [m_deed_by, Z.r_var, Z.r_varK, Z.r_C, Z.r_fn, Z.r_yes, Z.rd_d, Z.rd_r, Z.rdK_l, Z.rdK_f, Z.r_on1, Z.r_on2, Z.o1_s, Z.o2_s, Z.r_outN, Z.oK_v, Z.oK_l, Z.r_m1, Z.m1_o, Z.r_m2, Z.m2_o, Z.m2_p, Z.r_mB, Z.mB_o, Z.r_nil, Z.r_cons, Z.cn_o, Z.cn_p, Z.a1_s, Z.a2_s, Z.pu_nil, Z.pu_cons, Z.puK_s, Z.r_tup, Z.r_lst, Z.tp_s, Z.lt_s, Z.okLen_if, Z.r_fz, Z.fz_d, Z.fz_f, Z.fz_s, Z.fz_r, Z.fzR_l, Z.fzR_f, Z.r_T, Z.t_o, Z.tL_b, Z.r_not, Z.nt_o, Z.r_and, Z.r_or, Z.an_t, Z.an_f, Z.or_t, Z.or_f, Z.r_seq, Z.sq_n, Z.sq_r, Z.sq_b, Z.sq_c, Z.r_drop, Z.dr_o, Z.r_ret, Z.rt_o, Z.r_retN, Z.r_if, Z.if_o, Z.if_t', Z.if_f', Z.r_skip, Z.r_bk, Z.r_ct, Z.r_set, Z.st_o, Z.r_asg, Z.as_o, Z.as_p, Z.g_nm, Z.g_tp, Z.g_nil, Z.g_cons, Z.gc_o, Z.r_par, Z.pr_o, Z.pr_p, Z.sA_nil, Z.sA_cons, Z.r_fnM, Z.fn_n, Z.fn_d, Z.fn_r, Z.fr_l, Z.fr_f, Z.fr_i, Z.r_call, Z.cl_o, Z.r_callV, Z.cv_s, Z.in_r, Z.in_s, Z.r_fld, Z.fd_o, Z.fd_p, Z.fd_q, Z.r_setF, Z.sf_o, Z.sf_p, Z.sf_q, Z.r_meth, Z.mt_o, Z.mt_p, Z.mt_q, Z.r_make, Z.mk_o, Z.mk_p, Z.r_mt, Z.mm_o, Z.mm_p, Z.mm_q, Z.mm_r, Z.mm_s, Z.f_app, Z.f_ext, Z.ex_s, Z.f_popAt, Z.r_setIx, Z.si_o, Z.si_p, Z.si_q, Z.si_r, Z.sl_s, Z.r_augIx, Z.ai_o, Z.ai_p, Z.ai_q, Z.ai_r, Z.ai_s, Z.r_getL, Z.gl_s, Z.ip_add, Z.ip_sub, Z.r_aug, Z.ag_o, Z.ag_p, Z.ag_q, Z.r_ifE, Z.i_t, Z.i_f, Z.i_o, Z.r_andV, Z.av_o, Z.av_t, Z.av_f, Z.onB_K, Z.oBK_s, Z.r_chain, Z.ch_a, Z.ch_b, Z.ch_t, Z.ch_f, Z.ch_d, Z.ch_e, Z.r_chain3, Z.c3_a, Z.c3_b, Z.c3_t, Z.c3_f, Z.c3_d, Z.r_sl, Z.sl_a, Z.sl_b, Z.sl_c, Z.pt_n, Z.pt_s, Z.pt_o, Z.pt_i, Z.gs_d, Z.gs_r, Z.gs_s, Z.gSl_l, Z.gSl_t, Z.r_it, Z.it_l, Z.it_t, Z.r_enum, Z.en_l, Z.en_t, Z.r_rng1, Z.r_rng2, Z.r1_o, Z.r2_o, Z.r_for, Z.fo_o, Z.bd_o, Z.for_nil, Z.fl_n, Z.fl_c, Z.fl_b, Z.fl_r, Z.wc_t, Z.wc_f, Z.wb_n, Z.wb_r, Z.lc_nil, Z.lc_z, Z.lc_t, Z.lc_f, Z.lc_b, Z.lc_c, Z.r_lc, Z.lm_o, Z.lm_p, Z.gAdd_ii, Z.gAdd_ll, Z.gAdd_tt, Z.gSub_ii, Z.gMul_ii, Z.gDiv_ii, Z.gMod_ii, Z.gPow_ii, Z.gNeg_i, Z.bV_s, Z.gIx_l, Z.gIx_t, Z.gLen_l, Z.gLen_t, Z.gTup_l, Z.gTup_t, Z.gLst_l, Z.gLst_t, Z.gInt_i, Z.gInt_b, Z.gAbs_i, Z.gNot_b, Z.gZip_tt, Z.gZip_ll, Z.gAll_l, Z.gAny_l, Z.gSum_l, Z.gLRg1, Z.atI_0, Z.atI_1, Z.atI_2, Z.atI_3, Z.gS0, Z.gSj, Z.tS0, Z.tSj, Z.sS0, Z.sSj, Z.tSe, Z.r_lc2, Z.l2_o, Z.tL_l, Z.tL_t, Z.tL_i, Z.blsOf_true, Z.all_true, gEq_ii, gNe_ii, gEq_bb, gNe_bb, gLt_ii, gLe_ii, gGt_ii, gGe_ii, sub_sub_drop, HT.sIx_none, take_self, take_set, len_set, set_set, r_setL, putD, ixN, h1, h2, h3]
      · simp [m_deed_by, Z.r_var, Z.r_varK, Z.r_C, Z.r_fn, Z.r_yes, Z.rd_d, Z.rd_r, Z.rdK_l, Z.rdK_f, Z.r_on1, Z.r_on2, Z.o1_s, Z.o2_s, Z.r_outN, Z.oK_v, Z.oK_l, Z.r_m1, Z.m1_o, Z.r_m2, Z.m2_o, Z.m2_p, Z.r_mB, Z.mB_o, Z.r_nil, Z.r_cons, Z.cn_o, Z.cn_p, Z.a1_s, Z.a2_s, Z.pu_nil, Z.pu_cons, Z.puK_s, Z.r_tup, Z.r_lst, Z.tp_s, Z.lt_s, Z.okLen_if, Z.r_fz, Z.fz_d, Z.fz_f, Z.fz_s, Z.fz_r, Z.fzR_l, Z.fzR_f, Z.r_T, Z.t_o, Z.tL_b, Z.r_not, Z.nt_o, Z.r_and, Z.r_or, Z.an_t, Z.an_f, Z.or_t, Z.or_f, Z.r_seq, Z.sq_n, Z.sq_r, Z.sq_b, Z.sq_c, Z.r_drop, Z.dr_o, Z.r_ret, Z.rt_o, Z.r_retN, Z.r_if, Z.if_o, Z.if_t', Z.if_f', Z.r_skip, Z.r_bk, Z.r_ct, Z.r_set, Z.st_o, Z.r_asg, Z.as_o, Z.as_p, Z.g_nm, Z.g_tp, Z.g_nil, Z.g_cons, Z.gc_o, Z.r_par, Z.pr_o, Z.pr_p, Z.sA_nil, Z.sA_cons, Z.r_fnM, Z.fn_n, Z.fn_d, Z.fn_r, Z.fr_l, Z.fr_f, Z.fr_i, Z.r_call, Z.cl_o, Z.r_callV, Z.cv_s, Z.in_r, Z.in_s, Z.r_fld, Z.fd_o, Z.fd_p, Z.fd_q, Z.r_setF, Z.sf_o, Z.sf_p, Z.sf_q, Z.r_meth, Z.mt_o, Z.mt_p, Z.mt_q, Z.r_make, Z.mk_o, Z.mk_p, Z.r_mt, Z.mm_o, Z.mm_p, Z.mm_q, Z.mm_r, Z.mm_s, Z.f_app, Z.f_ext, Z.ex_s, Z.f_popAt, Z.r_setIx, Z.si_o, Z.si_p, Z.si_q, Z.si_r, Z.sl_s, Z.r_augIx, Z.ai_o, Z.ai_p, Z.ai_q, Z.ai_r, Z.ai_s, Z.r_getL, Z.gl_s, Z.ip_add, Z.ip_sub, Z.r_aug, Z.ag_o, Z.ag_p, Z.ag_q, Z.r_ifE, Z.i_t, Z.i_f, Z.i_o, Z.r_andV, Z.av_o, Z.av_t, Z.av_f, Z.onB_K, Z.oBK_s, Z.r_chain, Z.ch_a, Z.ch_b, Z.ch_t, Z.ch_f, Z.ch_d, Z.ch_e, Z.r_chain3, Z.c3_a, Z.c3_b, Z.c3_t, Z.c3_f, Z.c3_d, Z.r_sl, Z.sl_a, Z.sl_b, Z.sl_c, Z.pt_n, Z.pt_s, Z.pt_o, Z.pt_i, Z.gs_d, Z.gs_r, Z.gs_s, Z.gSl_l, Z.gSl_t, Z.r_it, Z.it_l, Z.it_t, Z.r_enum, Z.en_l, Z.en_t, Z.r_rng1, Z.r_rng2, Z.r1_o, Z.r2_o, Z.r_for, Z.fo_o, Z.bd_o, Z.for_nil, Z.fl_n, Z.fl_c, Z.fl_b, Z.fl_r, Z.wc_t, Z.wc_f, Z.wb_n, Z.wb_r, Z.lc_nil, Z.lc_z, Z.lc_t, Z.lc_f, Z.lc_b, Z.lc_c, Z.r_lc, Z.lm_o, Z.lm_p, Z.gAdd_ii, Z.gAdd_ll, Z.gAdd_tt, Z.gSub_ii, Z.gMul_ii, Z.gDiv_ii, Z.gMod_ii, Z.gPow_ii, Z.gNeg_i, Z.bV_s, Z.gIx_l, Z.gIx_t, Z.gLen_l, Z.gLen_t, Z.gTup_l, Z.gTup_t, Z.gLst_l, Z.gLst_t, Z.gInt_i, Z.gInt_b, Z.gAbs_i, Z.gNot_b, Z.gZip_tt, Z.gZip_ll, Z.gAll_l, Z.gAny_l, Z.gSum_l, Z.gLRg1, Z.atI_0, Z.atI_1, Z.atI_2, Z.atI_3, Z.gS0, Z.gSj, Z.tS0, Z.tSj, Z.sS0, Z.sSj, Z.tSe, Z.r_lc2, Z.l2_o, Z.tL_l, Z.tL_t, Z.tL_i, Z.blsOf_true, Z.all_true, gEq_ii, gNe_ii, gEq_bb, gNe_bb, gLt_ii, gLe_ii, gGt_ii, gGe_ii, sub_sub_drop, HT.sIx_none, take_self, take_set, len_set, set_set, r_setL, putD, ixN, h1, h2, h3]
theorem own_deed_ok {S T : Sto} {z : Int} (z0 : 0 ≤ z) (z1 : z < 2147483647) : p__law_own_deed [.r S.length] (S ++ OwO z :: T) = .ok (.d (deedD z)) (S ++ OwO (nxt (nxt (nxt z))) :: T) := by
  have q1 := nxt_lo z
  have q2 := nxt_hi z
  have q3 := nxt_lo (nxt z)
  have q4 := nxt_hi (nxt z)
  have hn := nm_at z
  unfold nms at hn
  unfold p__law_own_deed deedD ddD
  by_cases h1 : dr (nxt z) 12 < 5
  · simp [m__law_own_deed, Z.r_var, Z.r_varK, Z.r_C, Z.r_fn, Z.r_yes, Z.rd_d, Z.rd_r, Z.rdK_l, Z.rdK_f, Z.r_on1, Z.r_on2, Z.o1_s, Z.o2_s, Z.r_outN, Z.oK_v, Z.oK_l, Z.r_m1, Z.m1_o, Z.r_m2, Z.m2_o, Z.m2_p, Z.r_mB, Z.mB_o, Z.r_nil, Z.r_cons, Z.cn_o, Z.cn_p, Z.a1_s, Z.a2_s, Z.pu_nil, Z.pu_cons, Z.puK_s, Z.r_tup, Z.r_lst, Z.tp_s, Z.lt_s, Z.okLen_if, Z.r_fz, Z.fz_d, Z.fz_f, Z.fz_s, Z.fz_r, Z.fzR_l, Z.fzR_f, Z.r_T, Z.t_o, Z.tL_b, Z.r_not, Z.nt_o, Z.r_and, Z.r_or, Z.an_t, Z.an_f, Z.or_t, Z.or_f, Z.r_seq, Z.sq_n, Z.sq_r, Z.sq_b, Z.sq_c, Z.r_drop, Z.dr_o, Z.r_ret, Z.rt_o, Z.r_retN, Z.r_if, Z.if_o, Z.if_t', Z.if_f', Z.r_skip, Z.r_bk, Z.r_ct, Z.r_set, Z.st_o, Z.r_asg, Z.as_o, Z.as_p, Z.g_nm, Z.g_tp, Z.g_nil, Z.g_cons, Z.gc_o, Z.r_par, Z.pr_o, Z.pr_p, Z.sA_nil, Z.sA_cons, Z.r_fnM, Z.fn_n, Z.fn_d, Z.fn_r, Z.fr_l, Z.fr_f, Z.fr_i, Z.r_call, Z.cl_o, Z.r_callV, Z.cv_s, Z.in_r, Z.in_s, Z.r_fld, Z.fd_o, Z.fd_p, Z.fd_q, Z.r_setF, Z.sf_o, Z.sf_p, Z.sf_q, Z.r_meth, Z.mt_o, Z.mt_p, Z.mt_q, Z.r_make, Z.mk_o, Z.mk_p, Z.r_mt, Z.mm_o, Z.mm_p, Z.mm_q, Z.mm_r, Z.mm_s, Z.f_app, Z.f_ext, Z.ex_s, Z.f_popAt, Z.r_setIx, Z.si_o, Z.si_p, Z.si_q, Z.si_r, Z.sl_s, Z.r_augIx, Z.ai_o, Z.ai_p, Z.ai_q, Z.ai_r, Z.ai_s, Z.r_getL, Z.gl_s, Z.ip_add, Z.ip_sub, Z.r_aug, Z.ag_o, Z.ag_p, Z.ag_q, Z.r_ifE, Z.i_t, Z.i_f, Z.i_o, Z.r_andV, Z.av_o, Z.av_t, Z.av_f, Z.onB_K, Z.oBK_s, Z.r_chain, Z.ch_a, Z.ch_b, Z.ch_t, Z.ch_f, Z.ch_d, Z.ch_e, Z.r_chain3, Z.c3_a, Z.c3_b, Z.c3_t, Z.c3_f, Z.c3_d, Z.r_sl, Z.sl_a, Z.sl_b, Z.sl_c, Z.pt_n, Z.pt_s, Z.pt_o, Z.pt_i, Z.gs_d, Z.gs_r, Z.gs_s, Z.gSl_l, Z.gSl_t, Z.r_it, Z.it_l, Z.it_t, Z.r_enum, Z.en_l, Z.en_t, Z.r_rng1, Z.r_rng2, Z.r1_o, Z.r2_o, Z.r_for, Z.fo_o, Z.bd_o, Z.for_nil, Z.fl_n, Z.fl_c, Z.fl_b, Z.fl_r, Z.wc_t, Z.wc_f, Z.wb_n, Z.wb_r, Z.lc_nil, Z.lc_z, Z.lc_t, Z.lc_f, Z.lc_b, Z.lc_c, Z.r_lc, Z.lm_o, Z.lm_p, Z.gAdd_ii, Z.gAdd_ll, Z.gAdd_tt, Z.gSub_ii, Z.gMul_ii, Z.gDiv_ii, Z.gMod_ii, Z.gPow_ii, Z.gNeg_i, Z.bV_s, Z.gIx_l, Z.gIx_t, Z.gLen_l, Z.gLen_t, Z.gTup_l, Z.gTup_t, Z.gLst_l, Z.gLst_t, Z.gInt_i, Z.gInt_b, Z.gAbs_i, Z.gNot_b, Z.gZip_tt, Z.gZip_ll, Z.gAll_l, Z.gAny_l, Z.gSum_l, Z.gLRg1, Z.atI_0, Z.atI_1, Z.atI_2, Z.atI_3, Z.gS0, Z.gSj, Z.tS0, Z.tSj, Z.sS0, Z.sSj, Z.tSe, Z.r_lc2, Z.l2_o, Z.tL_l, Z.tL_t, Z.tL_i, Z.blsOf_true, Z.all_true, gEq_ii, gNe_ii, gEq_bb, gNe_bb, gLt_ii, gLe_ii, gGt_ii, gGe_ii, sub_sub_drop, HT.sIx_none, take_self, take_set, len_set, set_set, r_setL, putD, ixN, ld0 z0 z1, ld0 q1 q2, ld0 q3 q4, h1, hn]
  · by_cases h2 : dr (nxt z) 12 < 9
    · simp [m__law_own_deed, Z.r_var, Z.r_varK, Z.r_C, Z.r_fn, Z.r_yes, Z.rd_d, Z.rd_r, Z.rdK_l, Z.rdK_f, Z.r_on1, Z.r_on2, Z.o1_s, Z.o2_s, Z.r_outN, Z.oK_v, Z.oK_l, Z.r_m1, Z.m1_o, Z.r_m2, Z.m2_o, Z.m2_p, Z.r_mB, Z.mB_o, Z.r_nil, Z.r_cons, Z.cn_o, Z.cn_p, Z.a1_s, Z.a2_s, Z.pu_nil, Z.pu_cons, Z.puK_s, Z.r_tup, Z.r_lst, Z.tp_s, Z.lt_s, Z.okLen_if, Z.r_fz, Z.fz_d, Z.fz_f, Z.fz_s, Z.fz_r, Z.fzR_l, Z.fzR_f, Z.r_T, Z.t_o, Z.tL_b, Z.r_not, Z.nt_o, Z.r_and, Z.r_or, Z.an_t, Z.an_f, Z.or_t, Z.or_f, Z.r_seq, Z.sq_n, Z.sq_r, Z.sq_b, Z.sq_c, Z.r_drop, Z.dr_o, Z.r_ret, Z.rt_o, Z.r_retN, Z.r_if, Z.if_o, Z.if_t', Z.if_f', Z.r_skip, Z.r_bk, Z.r_ct, Z.r_set, Z.st_o, Z.r_asg, Z.as_o, Z.as_p, Z.g_nm, Z.g_tp, Z.g_nil, Z.g_cons, Z.gc_o, Z.r_par, Z.pr_o, Z.pr_p, Z.sA_nil, Z.sA_cons, Z.r_fnM, Z.fn_n, Z.fn_d, Z.fn_r, Z.fr_l, Z.fr_f, Z.fr_i, Z.r_call, Z.cl_o, Z.r_callV, Z.cv_s, Z.in_r, Z.in_s, Z.r_fld, Z.fd_o, Z.fd_p, Z.fd_q, Z.r_setF, Z.sf_o, Z.sf_p, Z.sf_q, Z.r_meth, Z.mt_o, Z.mt_p, Z.mt_q, Z.r_make, Z.mk_o, Z.mk_p, Z.r_mt, Z.mm_o, Z.mm_p, Z.mm_q, Z.mm_r, Z.mm_s, Z.f_app, Z.f_ext, Z.ex_s, Z.f_popAt, Z.r_setIx, Z.si_o, Z.si_p, Z.si_q, Z.si_r, Z.sl_s, Z.r_augIx, Z.ai_o, Z.ai_p, Z.ai_q, Z.ai_r, Z.ai_s, Z.r_getL, Z.gl_s, Z.ip_add, Z.ip_sub, Z.r_aug, Z.ag_o, Z.ag_p, Z.ag_q, Z.r_ifE, Z.i_t, Z.i_f, Z.i_o, Z.r_andV, Z.av_o, Z.av_t, Z.av_f, Z.onB_K, Z.oBK_s, Z.r_chain, Z.ch_a, Z.ch_b, Z.ch_t, Z.ch_f, Z.ch_d, Z.ch_e, Z.r_chain3, Z.c3_a, Z.c3_b, Z.c3_t, Z.c3_f, Z.c3_d, Z.r_sl, Z.sl_a, Z.sl_b, Z.sl_c, Z.pt_n, Z.pt_s, Z.pt_o, Z.pt_i, Z.gs_d, Z.gs_r, Z.gs_s, Z.gSl_l, Z.gSl_t, Z.r_it, Z.it_l, Z.it_t, Z.r_enum, Z.en_l, Z.en_t, Z.r_rng1, Z.r_rng2, Z.r1_o, Z.r2_o, Z.r_for, Z.fo_o, Z.bd_o, Z.for_nil, Z.fl_n, Z.fl_c, Z.fl_b, Z.fl_r, Z.wc_t, Z.wc_f, Z.wb_n, Z.wb_r, Z.lc_nil, Z.lc_z, Z.lc_t, Z.lc_f, Z.lc_b, Z.lc_c, Z.r_lc, Z.lm_o, Z.lm_p, Z.gAdd_ii, Z.gAdd_ll, Z.gAdd_tt, Z.gSub_ii, Z.gMul_ii, Z.gDiv_ii, Z.gMod_ii, Z.gPow_ii, Z.gNeg_i, Z.bV_s, Z.gIx_l, Z.gIx_t, Z.gLen_l, Z.gLen_t, Z.gTup_l, Z.gTup_t, Z.gLst_l, Z.gLst_t, Z.gInt_i, Z.gInt_b, Z.gAbs_i, Z.gNot_b, Z.gZip_tt, Z.gZip_ll, Z.gAll_l, Z.gAny_l, Z.gSum_l, Z.gLRg1, Z.atI_0, Z.atI_1, Z.atI_2, Z.atI_3, Z.gS0, Z.gSj, Z.tS0, Z.tSj, Z.sS0, Z.sSj, Z.tSe, Z.r_lc2, Z.l2_o, Z.tL_l, Z.tL_t, Z.tL_i, Z.blsOf_true, Z.all_true, gEq_ii, gNe_ii, gEq_bb, gNe_bb, gLt_ii, gLe_ii, gGt_ii, gGe_ii, sub_sub_drop, HT.sIx_none, take_self, take_set, len_set, set_set, r_setL, putD, ixN, ld0 z0 z1, ld0 q1 q2, ld0 q3 q4, h1, h2, hn]
    · by_cases h3 : dr (nxt z) 12 < 11
      · simp [m__law_own_deed, Z.r_var, Z.r_varK, Z.r_C, Z.r_fn, Z.r_yes, Z.rd_d, Z.rd_r, Z.rdK_l, Z.rdK_f, Z.r_on1, Z.r_on2, Z.o1_s, Z.o2_s, Z.r_outN, Z.oK_v, Z.oK_l, Z.r_m1, Z.m1_o, Z.r_m2, Z.m2_o, Z.m2_p, Z.r_mB, Z.mB_o, Z.r_nil, Z.r_cons, Z.cn_o, Z.cn_p, Z.a1_s, Z.a2_s, Z.pu_nil, Z.pu_cons, Z.puK_s, Z.r_tup, Z.r_lst, Z.tp_s, Z.lt_s, Z.okLen_if, Z.r_fz, Z.fz_d, Z.fz_f, Z.fz_s, Z.fz_r, Z.fzR_l, Z.fzR_f, Z.r_T, Z.t_o, Z.tL_b, Z.r_not, Z.nt_o, Z.r_and, Z.r_or, Z.an_t, Z.an_f, Z.or_t, Z.or_f, Z.r_seq, Z.sq_n, Z.sq_r, Z.sq_b, Z.sq_c, Z.r_drop, Z.dr_o, Z.r_ret, Z.rt_o, Z.r_retN, Z.r_if, Z.if_o, Z.if_t', Z.if_f', Z.r_skip, Z.r_bk, Z.r_ct, Z.r_set, Z.st_o, Z.r_asg, Z.as_o, Z.as_p, Z.g_nm, Z.g_tp, Z.g_nil, Z.g_cons, Z.gc_o, Z.r_par, Z.pr_o, Z.pr_p, Z.sA_nil, Z.sA_cons, Z.r_fnM, Z.fn_n, Z.fn_d, Z.fn_r, Z.fr_l, Z.fr_f, Z.fr_i, Z.r_call, Z.cl_o, Z.r_callV, Z.cv_s, Z.in_r, Z.in_s, Z.r_fld, Z.fd_o, Z.fd_p, Z.fd_q, Z.r_setF, Z.sf_o, Z.sf_p, Z.sf_q, Z.r_meth, Z.mt_o, Z.mt_p, Z.mt_q, Z.r_make, Z.mk_o, Z.mk_p, Z.r_mt, Z.mm_o, Z.mm_p, Z.mm_q, Z.mm_r, Z.mm_s, Z.f_app, Z.f_ext, Z.ex_s, Z.f_popAt, Z.r_setIx, Z.si_o, Z.si_p, Z.si_q, Z.si_r, Z.sl_s, Z.r_augIx, Z.ai_o, Z.ai_p, Z.ai_q, Z.ai_r, Z.ai_s, Z.r_getL, Z.gl_s, Z.ip_add, Z.ip_sub, Z.r_aug, Z.ag_o, Z.ag_p, Z.ag_q, Z.r_ifE, Z.i_t, Z.i_f, Z.i_o, Z.r_andV, Z.av_o, Z.av_t, Z.av_f, Z.onB_K, Z.oBK_s, Z.r_chain, Z.ch_a, Z.ch_b, Z.ch_t, Z.ch_f, Z.ch_d, Z.ch_e, Z.r_chain3, Z.c3_a, Z.c3_b, Z.c3_t, Z.c3_f, Z.c3_d, Z.r_sl, Z.sl_a, Z.sl_b, Z.sl_c, Z.pt_n, Z.pt_s, Z.pt_o, Z.pt_i, Z.gs_d, Z.gs_r, Z.gs_s, Z.gSl_l, Z.gSl_t, Z.r_it, Z.it_l, Z.it_t, Z.r_enum, Z.en_l, Z.en_t, Z.r_rng1, Z.r_rng2, Z.r1_o, Z.r2_o, Z.r_for, Z.fo_o, Z.bd_o, Z.for_nil, Z.fl_n, Z.fl_c, Z.fl_b, Z.fl_r, Z.wc_t, Z.wc_f, Z.wb_n, Z.wb_r, Z.lc_nil, Z.lc_z, Z.lc_t, Z.lc_f, Z.lc_b, Z.lc_c, Z.r_lc, Z.lm_o, Z.lm_p, Z.gAdd_ii, Z.gAdd_ll, Z.gAdd_tt, Z.gSub_ii, Z.gMul_ii, Z.gDiv_ii, Z.gMod_ii, Z.gPow_ii, Z.gNeg_i, Z.bV_s, Z.gIx_l, Z.gIx_t, Z.gLen_l, Z.gLen_t, Z.gTup_l, Z.gTup_t, Z.gLst_l, Z.gLst_t, Z.gInt_i, Z.gInt_b, Z.gAbs_i, Z.gNot_b, Z.gZip_tt, Z.gZip_ll, Z.gAll_l, Z.gAny_l, Z.gSum_l, Z.gLRg1, Z.atI_0, Z.atI_1, Z.atI_2, Z.atI_3, Z.gS0, Z.gSj, Z.tS0, Z.tSj, Z.sS0, Z.sSj, Z.tSe, Z.r_lc2, Z.l2_o, Z.tL_l, Z.tL_t, Z.tL_i, Z.blsOf_true, Z.all_true, gEq_ii, gNe_ii, gEq_bb, gNe_bb, gLt_ii, gLe_ii, gGt_ii, gGe_ii, sub_sub_drop, HT.sIx_none, take_self, take_set, len_set, set_set, r_setL, putD, ixN, ld0 z0 z1, ld0 q1 q2, ld0 q3 q4, h1, h2, h3, hn]
      · simp [m__law_own_deed, Z.r_var, Z.r_varK, Z.r_C, Z.r_fn, Z.r_yes, Z.rd_d, Z.rd_r, Z.rdK_l, Z.rdK_f, Z.r_on1, Z.r_on2, Z.o1_s, Z.o2_s, Z.r_outN, Z.oK_v, Z.oK_l, Z.r_m1, Z.m1_o, Z.r_m2, Z.m2_o, Z.m2_p, Z.r_mB, Z.mB_o, Z.r_nil, Z.r_cons, Z.cn_o, Z.cn_p, Z.a1_s, Z.a2_s, Z.pu_nil, Z.pu_cons, Z.puK_s, Z.r_tup, Z.r_lst, Z.tp_s, Z.lt_s, Z.okLen_if, Z.r_fz, Z.fz_d, Z.fz_f, Z.fz_s, Z.fz_r, Z.fzR_l, Z.fzR_f, Z.r_T, Z.t_o, Z.tL_b, Z.r_not, Z.nt_o, Z.r_and, Z.r_or, Z.an_t, Z.an_f, Z.or_t, Z.or_f, Z.r_seq, Z.sq_n, Z.sq_r, Z.sq_b, Z.sq_c, Z.r_drop, Z.dr_o, Z.r_ret, Z.rt_o, Z.r_retN, Z.r_if, Z.if_o, Z.if_t', Z.if_f', Z.r_skip, Z.r_bk, Z.r_ct, Z.r_set, Z.st_o, Z.r_asg, Z.as_o, Z.as_p, Z.g_nm, Z.g_tp, Z.g_nil, Z.g_cons, Z.gc_o, Z.r_par, Z.pr_o, Z.pr_p, Z.sA_nil, Z.sA_cons, Z.r_fnM, Z.fn_n, Z.fn_d, Z.fn_r, Z.fr_l, Z.fr_f, Z.fr_i, Z.r_call, Z.cl_o, Z.r_callV, Z.cv_s, Z.in_r, Z.in_s, Z.r_fld, Z.fd_o, Z.fd_p, Z.fd_q, Z.r_setF, Z.sf_o, Z.sf_p, Z.sf_q, Z.r_meth, Z.mt_o, Z.mt_p, Z.mt_q, Z.r_make, Z.mk_o, Z.mk_p, Z.r_mt, Z.mm_o, Z.mm_p, Z.mm_q, Z.mm_r, Z.mm_s, Z.f_app, Z.f_ext, Z.ex_s, Z.f_popAt, Z.r_setIx, Z.si_o, Z.si_p, Z.si_q, Z.si_r, Z.sl_s, Z.r_augIx, Z.ai_o, Z.ai_p, Z.ai_q, Z.ai_r, Z.ai_s, Z.r_getL, Z.gl_s, Z.ip_add, Z.ip_sub, Z.r_aug, Z.ag_o, Z.ag_p, Z.ag_q, Z.r_ifE, Z.i_t, Z.i_f, Z.i_o, Z.r_andV, Z.av_o, Z.av_t, Z.av_f, Z.onB_K, Z.oBK_s, Z.r_chain, Z.ch_a, Z.ch_b, Z.ch_t, Z.ch_f, Z.ch_d, Z.ch_e, Z.r_chain3, Z.c3_a, Z.c3_b, Z.c3_t, Z.c3_f, Z.c3_d, Z.r_sl, Z.sl_a, Z.sl_b, Z.sl_c, Z.pt_n, Z.pt_s, Z.pt_o, Z.pt_i, Z.gs_d, Z.gs_r, Z.gs_s, Z.gSl_l, Z.gSl_t, Z.r_it, Z.it_l, Z.it_t, Z.r_enum, Z.en_l, Z.en_t, Z.r_rng1, Z.r_rng2, Z.r1_o, Z.r2_o, Z.r_for, Z.fo_o, Z.bd_o, Z.for_nil, Z.fl_n, Z.fl_c, Z.fl_b, Z.fl_r, Z.wc_t, Z.wc_f, Z.wb_n, Z.wb_r, Z.lc_nil, Z.lc_z, Z.lc_t, Z.lc_f, Z.lc_b, Z.lc_c, Z.r_lc, Z.lm_o, Z.lm_p, Z.gAdd_ii, Z.gAdd_ll, Z.gAdd_tt, Z.gSub_ii, Z.gMul_ii, Z.gDiv_ii, Z.gMod_ii, Z.gPow_ii, Z.gNeg_i, Z.bV_s, Z.gIx_l, Z.gIx_t, Z.gLen_l, Z.gLen_t, Z.gTup_l, Z.gTup_t, Z.gLst_l, Z.gLst_t, Z.gInt_i, Z.gInt_b, Z.gAbs_i, Z.gNot_b, Z.gZip_tt, Z.gZip_ll, Z.gAll_l, Z.gAny_l, Z.gSum_l, Z.gLRg1, Z.atI_0, Z.atI_1, Z.atI_2, Z.atI_3, Z.gS0, Z.gSj, Z.tS0, Z.tSj, Z.sS0, Z.sSj, Z.tSe, Z.r_lc2, Z.l2_o, Z.tL_l, Z.tL_t, Z.tL_i, Z.blsOf_true, Z.all_true, gEq_ii, gNe_ii, gEq_bb, gNe_bb, gLt_ii, gLe_ii, gGt_ii, gGe_ii, sub_sub_drop, HT.sIx_none, take_self, take_set, len_set, set_set, r_setL, putD, ixN, ld0 z0 z1, ld0 q1 q2, ld0 q3 q4, h1, h2, h3, hn]
def deedS (s : Int × List D) (_ : D) : Int × List D := (nxt (nxt (nxt s.1)), s.2 ++ [deedD s.1])
def deeds (n : Nat) (z : Int) : List D := ((rgD 0 n).foldl deedS (z % 2147483647, [])).2
theorem deeds_of_ok {S : Sto} {seed n : Int} (h0 : 0 ≤ n) (h1 : n ≤ 1000) : p_deeds_of [.d (.int seed), .d (.int n)] S = .ok (.d (.tuple (deeds n.toNat seed))) S := by
  unfold p_deeds_of
  simp [m_deeds_of, Z.r_var, Z.r_varK, Z.r_C, Z.r_fn, Z.r_yes, Z.rd_d, Z.rd_r, Z.rdK_l, Z.rdK_f, Z.r_on1, Z.r_on2, Z.o1_s, Z.o2_s, Z.r_outN, Z.oK_v, Z.oK_l, Z.r_m1, Z.m1_o, Z.r_m2, Z.m2_o, Z.m2_p, Z.r_mB, Z.mB_o, Z.r_nil, Z.r_cons, Z.cn_o, Z.cn_p, Z.a1_s, Z.a2_s, Z.pu_nil, Z.pu_cons, Z.puK_s, Z.r_tup, Z.r_lst, Z.tp_s, Z.lt_s, Z.okLen_if, Z.r_fz, Z.fz_d, Z.fz_f, Z.fz_s, Z.fz_r, Z.fzR_l, Z.fzR_f, Z.r_T, Z.t_o, Z.tL_b, Z.r_not, Z.nt_o, Z.r_and, Z.r_or, Z.an_t, Z.an_f, Z.or_t, Z.or_f, Z.r_seq, Z.sq_n, Z.sq_r, Z.sq_b, Z.sq_c, Z.r_drop, Z.dr_o, Z.r_ret, Z.rt_o, Z.r_retN, Z.r_if, Z.if_o, Z.if_t', Z.if_f', Z.r_skip, Z.r_bk, Z.r_ct, Z.r_set, Z.st_o, Z.r_asg, Z.as_o, Z.as_p, Z.g_nm, Z.g_tp, Z.g_nil, Z.g_cons, Z.gc_o, Z.r_par, Z.pr_o, Z.pr_p, Z.sA_nil, Z.sA_cons, Z.r_fnM, Z.fn_n, Z.fn_d, Z.fn_r, Z.fr_l, Z.fr_f, Z.fr_i, Z.r_call, Z.cl_o, Z.r_callV, Z.cv_s, Z.in_r, Z.in_s, Z.r_fld, Z.fd_o, Z.fd_p, Z.fd_q, Z.r_setF, Z.sf_o, Z.sf_p, Z.sf_q, Z.r_meth, Z.mt_o, Z.mt_p, Z.mt_q, Z.r_make, Z.mk_o, Z.mk_p, Z.r_mt, Z.mm_o, Z.mm_p, Z.mm_q, Z.mm_r, Z.mm_s, Z.f_app, Z.f_ext, Z.ex_s, Z.f_popAt, Z.r_setIx, Z.si_o, Z.si_p, Z.si_q, Z.si_r, Z.sl_s, Z.r_augIx, Z.ai_o, Z.ai_p, Z.ai_q, Z.ai_r, Z.ai_s, Z.r_getL, Z.gl_s, Z.ip_add, Z.ip_sub, Z.r_aug, Z.ag_o, Z.ag_p, Z.ag_q, Z.r_ifE, Z.i_t, Z.i_f, Z.i_o, Z.r_andV, Z.av_o, Z.av_t, Z.av_f, Z.onB_K, Z.oBK_s, Z.r_chain, Z.ch_a, Z.ch_b, Z.ch_t, Z.ch_f, Z.ch_d, Z.ch_e, Z.r_chain3, Z.c3_a, Z.c3_b, Z.c3_t, Z.c3_f, Z.c3_d, Z.r_sl, Z.sl_a, Z.sl_b, Z.sl_c, Z.pt_n, Z.pt_s, Z.pt_o, Z.pt_i, Z.gs_d, Z.gs_r, Z.gs_s, Z.gSl_l, Z.gSl_t, Z.r_it, Z.it_l, Z.it_t, Z.r_enum, Z.en_l, Z.en_t, Z.r_rng1, Z.r_rng2, Z.r1_o, Z.r2_o, Z.r_for, Z.fo_o, Z.bd_o, Z.for_nil, Z.fl_n, Z.fl_c, Z.fl_b, Z.fl_r, Z.wc_t, Z.wc_f, Z.wb_n, Z.wb_r, Z.lc_nil, Z.lc_z, Z.lc_t, Z.lc_f, Z.lc_b, Z.lc_c, Z.r_lc, Z.lm_o, Z.lm_p, Z.gAdd_ii, Z.gAdd_ll, Z.gAdd_tt, Z.gSub_ii, Z.gMul_ii, Z.gDiv_ii, Z.gMod_ii, Z.gPow_ii, Z.gNeg_i, Z.bV_s, Z.gIx_l, Z.gIx_t, Z.gLen_l, Z.gLen_t, Z.gTup_l, Z.gTup_t, Z.gLst_l, Z.gLst_t, Z.gInt_i, Z.gInt_b, Z.gAbs_i, Z.gNot_b, Z.gZip_tt, Z.gZip_ll, Z.gAll_l, Z.gAny_l, Z.gSum_l, Z.gLRg1, Z.atI_0, Z.atI_1, Z.atI_2, Z.atI_3, Z.gS0, Z.gSj, Z.tS0, Z.tSj, Z.sS0, Z.sSj, Z.tSe, Z.r_lc2, Z.l2_o, Z.tL_l, Z.tL_t, Z.tL_i, Z.blsOf_true, Z.all_true, gEq_ii, gNe_ii, gEq_bb, gNe_bb, gLt_ii, gLe_ii, gGt_ii, gGe_ii, sub_sub_drop, HT.sIx_none, take_self, take_set, len_set, set_set, r_setL, putD, ixN, mk0, sm62 (show -1000000000 ≤ n by omega) (by omega)]
  refine for_then (fun o => fnK S.length (sqK _ o)) (fun r s E S' => ∃ a b c, E = [some (.d (.int seed)), some (.d (.int n)), some (.r S.length), some (.r (S.length + 1)), a, b, c] ∧ S' = S ++ [DrO s.1, .lst s.2] ∧ 0 ≤ s.1 ∧ s.1 < 2147483647 ∧ s.2.length + r ≤ 1000000)
    deedS (seed % 2147483647, []) ?_ ?_ ?_
  · exact ⟨none, none, none, rfl, rfl, (emod_rng _ (by omega)).1, (emod_rng _ (by omega)).2, by rw [rgD_len]; simp; omega⟩
  · rintro r ⟨z, f⟩ d E S' hd ⟨a, b, c, rfl, rfl, z0, z1, hr⟩
    dsimp only at *
    have q1 := nxt_lo z
    have q2 := nxt_hi z
    have q3 := nxt_lo (nxt z)
    have q4 := nxt_hi (nxt z)
    have hn := nm_at z
    unfold nms at hn
    refine ⟨[some (.d (.int seed)), some (.d (.int n)), some (.r S.length), some (.r (S.length + 1)), some (.d d), some (.d (.int (dr (nxt z) 12))), some (.d (nmD z))], S ++ [DrO (nxt (nxt (nxt z))), .lst (deedS (z, f) d).2], .inl ?_, ?_⟩
    · have hf : f.length < 16777216 := by omega
      simp [Z.r_var, Z.r_varK, Z.r_C, Z.r_fn, Z.r_yes, Z.rd_d, Z.rd_r, Z.rdK_l, Z.rdK_f, Z.r_on1, Z.r_on2, Z.o1_s, Z.o2_s, Z.r_outN, Z.oK_v, Z.oK_l, Z.r_m1, Z.m1_o, Z.r_m2, Z.m2_o, Z.m2_p, Z.r_mB, Z.mB_o, Z.r_nil, Z.r_cons, Z.cn_o, Z.cn_p, Z.a1_s, Z.a2_s, Z.pu_nil, Z.pu_cons, Z.puK_s, Z.r_tup, Z.r_lst, Z.tp_s, Z.lt_s, Z.okLen_if, Z.r_fz, Z.fz_d, Z.fz_f, Z.fz_s, Z.fz_r, Z.fzR_l, Z.fzR_f, Z.r_T, Z.t_o, Z.tL_b, Z.r_not, Z.nt_o, Z.r_and, Z.r_or, Z.an_t, Z.an_f, Z.or_t, Z.or_f, Z.r_seq, Z.sq_n, Z.sq_r, Z.sq_b, Z.sq_c, Z.r_drop, Z.dr_o, Z.r_ret, Z.rt_o, Z.r_retN, Z.r_if, Z.if_o, Z.if_t', Z.if_f', Z.r_skip, Z.r_bk, Z.r_ct, Z.r_set, Z.st_o, Z.r_asg, Z.as_o, Z.as_p, Z.g_nm, Z.g_tp, Z.g_nil, Z.g_cons, Z.gc_o, Z.r_par, Z.pr_o, Z.pr_p, Z.sA_nil, Z.sA_cons, Z.r_fnM, Z.fn_n, Z.fn_d, Z.fn_r, Z.fr_l, Z.fr_f, Z.fr_i, Z.r_call, Z.cl_o, Z.r_callV, Z.cv_s, Z.in_r, Z.in_s, Z.r_fld, Z.fd_o, Z.fd_p, Z.fd_q, Z.r_setF, Z.sf_o, Z.sf_p, Z.sf_q, Z.r_meth, Z.mt_o, Z.mt_p, Z.mt_q, Z.r_make, Z.mk_o, Z.mk_p, Z.r_mt, Z.mm_o, Z.mm_p, Z.mm_q, Z.mm_r, Z.mm_s, Z.f_app, Z.f_ext, Z.ex_s, Z.f_popAt, Z.r_setIx, Z.si_o, Z.si_p, Z.si_q, Z.si_r, Z.sl_s, Z.r_augIx, Z.ai_o, Z.ai_p, Z.ai_q, Z.ai_r, Z.ai_s, Z.r_getL, Z.gl_s, Z.ip_add, Z.ip_sub, Z.r_aug, Z.ag_o, Z.ag_p, Z.ag_q, Z.r_ifE, Z.i_t, Z.i_f, Z.i_o, Z.r_andV, Z.av_o, Z.av_t, Z.av_f, Z.onB_K, Z.oBK_s, Z.r_chain, Z.ch_a, Z.ch_b, Z.ch_t, Z.ch_f, Z.ch_d, Z.ch_e, Z.r_chain3, Z.c3_a, Z.c3_b, Z.c3_t, Z.c3_f, Z.c3_d, Z.r_sl, Z.sl_a, Z.sl_b, Z.sl_c, Z.pt_n, Z.pt_s, Z.pt_o, Z.pt_i, Z.gs_d, Z.gs_r, Z.gs_s, Z.gSl_l, Z.gSl_t, Z.r_it, Z.it_l, Z.it_t, Z.r_enum, Z.en_l, Z.en_t, Z.r_rng1, Z.r_rng2, Z.r1_o, Z.r2_o, Z.r_for, Z.fo_o, Z.bd_o, Z.for_nil, Z.fl_n, Z.fl_c, Z.fl_b, Z.fl_r, Z.wc_t, Z.wc_f, Z.wb_n, Z.wb_r, Z.lc_nil, Z.lc_z, Z.lc_t, Z.lc_f, Z.lc_b, Z.lc_c, Z.r_lc, Z.lm_o, Z.lm_p, Z.gAdd_ii, Z.gAdd_ll, Z.gAdd_tt, Z.gSub_ii, Z.gMul_ii, Z.gDiv_ii, Z.gMod_ii, Z.gPow_ii, Z.gNeg_i, Z.bV_s, Z.gIx_l, Z.gIx_t, Z.gLen_l, Z.gLen_t, Z.gTup_l, Z.gTup_t, Z.gLst_l, Z.gLst_t, Z.gInt_i, Z.gInt_b, Z.gAbs_i, Z.gNot_b, Z.gZip_tt, Z.gZip_ll, Z.gAll_l, Z.gAny_l, Z.gSum_l, Z.gLRg1, Z.atI_0, Z.atI_1, Z.atI_2, Z.atI_3, Z.gS0, Z.gSj, Z.tS0, Z.tSj, Z.sS0, Z.sSj, Z.tSe, Z.r_lc2, Z.l2_o, Z.tL_l, Z.tL_t, Z.tL_i, Z.blsOf_true, Z.all_true, gEq_ii, gNe_ii, gEq_bb, gNe_bb, gLt_ii, gLe_ii, gGt_ii, gGe_ii, sub_sub_drop, HT.sIx_none, take_self, take_set, len_set, set_set, r_setL, putD, ixN, mtT, k_NAMES, dt0 z0 z1, dt0 q1 q2, dt0 q3 q4, hn, hf, deedS, deed_by_ok, deedD]
    · exact ⟨_, _, _, rfl, rfl, nxt_lo _, nxt_hi _, by simp [deedS]; omega⟩
  · rintro E' S' ⟨a, b, c, rfl, rfl, _, _, _⟩
    simp [Z.r_var, Z.r_varK, Z.r_C, Z.r_fn, Z.r_yes, Z.rd_d, Z.rd_r, Z.rdK_l, Z.rdK_f, Z.r_on1, Z.r_on2, Z.o1_s, Z.o2_s, Z.r_outN, Z.oK_v, Z.oK_l, Z.r_m1, Z.m1_o, Z.r_m2, Z.m2_o, Z.m2_p, Z.r_mB, Z.mB_o, Z.r_nil, Z.r_cons, Z.cn_o, Z.cn_p, Z.a1_s, Z.a2_s, Z.pu_nil, Z.pu_cons, Z.puK_s, Z.r_tup, Z.r_lst, Z.tp_s, Z.lt_s, Z.okLen_if, Z.r_fz, Z.fz_d, Z.fz_f, Z.fz_s, Z.fz_r, Z.fzR_l, Z.fzR_f, Z.r_T, Z.t_o, Z.tL_b, Z.r_not, Z.nt_o, Z.r_and, Z.r_or, Z.an_t, Z.an_f, Z.or_t, Z.or_f, Z.r_seq, Z.sq_n, Z.sq_r, Z.sq_b, Z.sq_c, Z.r_drop, Z.dr_o, Z.r_ret, Z.rt_o, Z.r_retN, Z.r_if, Z.if_o, Z.if_t', Z.if_f', Z.r_skip, Z.r_bk, Z.r_ct, Z.r_set, Z.st_o, Z.r_asg, Z.as_o, Z.as_p, Z.g_nm, Z.g_tp, Z.g_nil, Z.g_cons, Z.gc_o, Z.r_par, Z.pr_o, Z.pr_p, Z.sA_nil, Z.sA_cons, Z.r_fnM, Z.fn_n, Z.fn_d, Z.fn_r, Z.fr_l, Z.fr_f, Z.fr_i, Z.r_call, Z.cl_o, Z.r_callV, Z.cv_s, Z.in_r, Z.in_s, Z.r_fld, Z.fd_o, Z.fd_p, Z.fd_q, Z.r_setF, Z.sf_o, Z.sf_p, Z.sf_q, Z.r_meth, Z.mt_o, Z.mt_p, Z.mt_q, Z.r_make, Z.mk_o, Z.mk_p, Z.r_mt, Z.mm_o, Z.mm_p, Z.mm_q, Z.mm_r, Z.mm_s, Z.f_app, Z.f_ext, Z.ex_s, Z.f_popAt, Z.r_setIx, Z.si_o, Z.si_p, Z.si_q, Z.si_r, Z.sl_s, Z.r_augIx, Z.ai_o, Z.ai_p, Z.ai_q, Z.ai_r, Z.ai_s, Z.r_getL, Z.gl_s, Z.ip_add, Z.ip_sub, Z.r_aug, Z.ag_o, Z.ag_p, Z.ag_q, Z.r_ifE, Z.i_t, Z.i_f, Z.i_o, Z.r_andV, Z.av_o, Z.av_t, Z.av_f, Z.onB_K, Z.oBK_s, Z.r_chain, Z.ch_a, Z.ch_b, Z.ch_t, Z.ch_f, Z.ch_d, Z.ch_e, Z.r_chain3, Z.c3_a, Z.c3_b, Z.c3_t, Z.c3_f, Z.c3_d, Z.r_sl, Z.sl_a, Z.sl_b, Z.sl_c, Z.pt_n, Z.pt_s, Z.pt_o, Z.pt_i, Z.gs_d, Z.gs_r, Z.gs_s, Z.gSl_l, Z.gSl_t, Z.r_it, Z.it_l, Z.it_t, Z.r_enum, Z.en_l, Z.en_t, Z.r_rng1, Z.r_rng2, Z.r1_o, Z.r2_o, Z.r_for, Z.fo_o, Z.bd_o, Z.for_nil, Z.fl_n, Z.fl_c, Z.fl_b, Z.fl_r, Z.wc_t, Z.wc_f, Z.wb_n, Z.wb_r, Z.lc_nil, Z.lc_z, Z.lc_t, Z.lc_f, Z.lc_b, Z.lc_c, Z.r_lc, Z.lm_o, Z.lm_p, Z.gAdd_ii, Z.gAdd_ll, Z.gAdd_tt, Z.gSub_ii, Z.gMul_ii, Z.gDiv_ii, Z.gMod_ii, Z.gPow_ii, Z.gNeg_i, Z.bV_s, Z.gIx_l, Z.gIx_t, Z.gLen_l, Z.gLen_t, Z.gTup_l, Z.gTup_t, Z.gLst_l, Z.gLst_t, Z.gInt_i, Z.gInt_b, Z.gAbs_i, Z.gNot_b, Z.gZip_tt, Z.gZip_ll, Z.gAll_l, Z.gAny_l, Z.gSum_l, Z.gLRg1, Z.atI_0, Z.atI_1, Z.atI_2, Z.atI_3, Z.gS0, Z.gSj, Z.tS0, Z.tSj, Z.sS0, Z.sSj, Z.tSe, Z.r_lc2, Z.l2_o, Z.tL_l, Z.tL_t, Z.tL_i, Z.blsOf_true, Z.all_true, gEq_ii, gNe_ii, gEq_bb, gNe_bb, gLt_ii, gLe_ii, gGt_ii, gGe_ii, sub_sub_drop, HT.sIx_none, take_self, take_set, len_set, set_set, r_setL, putD, ixN]
    rfl
/-! checks -/
theorem is_integer_ok {S : Sto} {i : Int} : p_is_integer [.d (.int i)] S = .ok (.d (.bool true)) S := by
  unfold p_is_integer
  simp [m_is_integer, Z.r_var, Z.r_varK, Z.r_C, Z.r_fn, Z.r_yes, Z.rd_d, Z.rd_r, Z.rdK_l, Z.rdK_f, Z.r_on1, Z.r_on2, Z.o1_s, Z.o2_s, Z.r_outN, Z.oK_v, Z.oK_l, Z.r_m1, Z.m1_o, Z.r_m2, Z.m2_o, Z.m2_p, Z.r_mB, Z.mB_o, Z.r_nil, Z.r_cons, Z.cn_o, Z.cn_p, Z.a1_s, Z.a2_s, Z.pu_nil, Z.pu_cons, Z.puK_s, Z.r_tup, Z.r_lst, Z.tp_s, Z.lt_s, Z.okLen_if, Z.r_fz, Z.fz_d, Z.fz_f, Z.fz_s, Z.fz_r, Z.fzR_l, Z.fzR_f, Z.r_T, Z.t_o, Z.tL_b, Z.r_not, Z.nt_o, Z.r_and, Z.r_or, Z.an_t, Z.an_f, Z.or_t, Z.or_f, Z.r_seq, Z.sq_n, Z.sq_r, Z.sq_b, Z.sq_c, Z.r_drop, Z.dr_o, Z.r_ret, Z.rt_o, Z.r_retN, Z.r_if, Z.if_o, Z.if_t', Z.if_f', Z.r_skip, Z.r_bk, Z.r_ct, Z.r_set, Z.st_o, Z.r_asg, Z.as_o, Z.as_p, Z.g_nm, Z.g_tp, Z.g_nil, Z.g_cons, Z.gc_o, Z.r_par, Z.pr_o, Z.pr_p, Z.sA_nil, Z.sA_cons, Z.r_fnM, Z.fn_n, Z.fn_d, Z.fn_r, Z.fr_l, Z.fr_f, Z.fr_i, Z.r_call, Z.cl_o, Z.r_callV, Z.cv_s, Z.in_r, Z.in_s, Z.r_fld, Z.fd_o, Z.fd_p, Z.fd_q, Z.r_setF, Z.sf_o, Z.sf_p, Z.sf_q, Z.r_meth, Z.mt_o, Z.mt_p, Z.mt_q, Z.r_make, Z.mk_o, Z.mk_p, Z.r_mt, Z.mm_o, Z.mm_p, Z.mm_q, Z.mm_r, Z.mm_s, Z.f_app, Z.f_ext, Z.ex_s, Z.f_popAt, Z.r_setIx, Z.si_o, Z.si_p, Z.si_q, Z.si_r, Z.sl_s, Z.r_augIx, Z.ai_o, Z.ai_p, Z.ai_q, Z.ai_r, Z.ai_s, Z.r_getL, Z.gl_s, Z.ip_add, Z.ip_sub, Z.r_aug, Z.ag_o, Z.ag_p, Z.ag_q, Z.r_ifE, Z.i_t, Z.i_f, Z.i_o, Z.r_andV, Z.av_o, Z.av_t, Z.av_f, Z.onB_K, Z.oBK_s, Z.r_chain, Z.ch_a, Z.ch_b, Z.ch_t, Z.ch_f, Z.ch_d, Z.ch_e, Z.r_chain3, Z.c3_a, Z.c3_b, Z.c3_t, Z.c3_f, Z.c3_d, Z.r_sl, Z.sl_a, Z.sl_b, Z.sl_c, Z.pt_n, Z.pt_s, Z.pt_o, Z.pt_i, Z.gs_d, Z.gs_r, Z.gs_s, Z.gSl_l, Z.gSl_t, Z.r_it, Z.it_l, Z.it_t, Z.r_enum, Z.en_l, Z.en_t, Z.r_rng1, Z.r_rng2, Z.r1_o, Z.r2_o, Z.r_for, Z.fo_o, Z.bd_o, Z.for_nil, Z.fl_n, Z.fl_c, Z.fl_b, Z.fl_r, Z.wc_t, Z.wc_f, Z.wb_n, Z.wb_r, Z.lc_nil, Z.lc_z, Z.lc_t, Z.lc_f, Z.lc_b, Z.lc_c, Z.r_lc, Z.lm_o, Z.lm_p, Z.gAdd_ii, Z.gAdd_ll, Z.gAdd_tt, Z.gSub_ii, Z.gMul_ii, Z.gDiv_ii, Z.gMod_ii, Z.gPow_ii, Z.gNeg_i, Z.bV_s, Z.gIx_l, Z.gIx_t, Z.gLen_l, Z.gLen_t, Z.gTup_l, Z.gTup_t, Z.gLst_l, Z.gLst_t, Z.gInt_i, Z.gInt_b, Z.gAbs_i, Z.gNot_b, Z.gZip_tt, Z.gZip_ll, Z.gAll_l, Z.gAny_l, Z.gSum_l, Z.gLRg1, Z.atI_0, Z.atI_1, Z.atI_2, Z.atI_3, Z.gS0, Z.gSj, Z.tS0, Z.tSj, Z.sS0, Z.sSj, Z.tSe, Z.r_lc2, Z.l2_o, Z.tL_l, Z.tL_t, Z.tL_i, Z.blsOf_true, Z.all_true, gEq_ii, gNe_ii, gEq_bb, gNe_bb, gLt_ii, gLe_ii, gGt_ii, gGe_ii, sub_sub_drop, HT.sIx_none, take_self, take_set, len_set, set_set, r_setL, putD, ixN, isi_b, isTy]
theorem is_pair_ok {S : Sto} {i j : Int} : p_is_pair [.d (.tuple [.int i, .int j])] S = .ok (.d (.bool true)) S := by
  unfold p_is_pair
  have h : p_are_integers [.d (.tuple [.int i, .int j])] S = .ok (.d (.bool true)) S := by
    unfold p_are_integers
    have h2 : p_are_all (tab1 "is_integer" p_is_integer) [.d (.tuple [.int i, .int j]), .f "is_integer"] S = .ok (.d (.bool true)) S := by
      unfold p_are_all
      simp [m_are_all, Z.r_var, Z.r_varK, Z.r_C, Z.r_fn, Z.r_yes, Z.rd_d, Z.rd_r, Z.rdK_l, Z.rdK_f, Z.r_on1, Z.r_on2, Z.o1_s, Z.o2_s, Z.r_outN, Z.oK_v, Z.oK_l, Z.r_m1, Z.m1_o, Z.r_m2, Z.m2_o, Z.m2_p, Z.r_mB, Z.mB_o, Z.r_nil, Z.r_cons, Z.cn_o, Z.cn_p, Z.a1_s, Z.a2_s, Z.pu_nil, Z.pu_cons, Z.puK_s, Z.r_tup, Z.r_lst, Z.tp_s, Z.lt_s, Z.okLen_if, Z.r_fz, Z.fz_d, Z.fz_f, Z.fz_s, Z.fz_r, Z.fzR_l, Z.fzR_f, Z.r_T, Z.t_o, Z.tL_b, Z.r_not, Z.nt_o, Z.r_and, Z.r_or, Z.an_t, Z.an_f, Z.or_t, Z.or_f, Z.r_seq, Z.sq_n, Z.sq_r, Z.sq_b, Z.sq_c, Z.r_drop, Z.dr_o, Z.r_ret, Z.rt_o, Z.r_retN, Z.r_if, Z.if_o, Z.if_t', Z.if_f', Z.r_skip, Z.r_bk, Z.r_ct, Z.r_set, Z.st_o, Z.r_asg, Z.as_o, Z.as_p, Z.g_nm, Z.g_tp, Z.g_nil, Z.g_cons, Z.gc_o, Z.r_par, Z.pr_o, Z.pr_p, Z.sA_nil, Z.sA_cons, Z.r_fnM, Z.fn_n, Z.fn_d, Z.fn_r, Z.fr_l, Z.fr_f, Z.fr_i, Z.r_call, Z.cl_o, Z.r_callV, Z.cv_s, Z.in_r, Z.in_s, Z.r_fld, Z.fd_o, Z.fd_p, Z.fd_q, Z.r_setF, Z.sf_o, Z.sf_p, Z.sf_q, Z.r_meth, Z.mt_o, Z.mt_p, Z.mt_q, Z.r_make, Z.mk_o, Z.mk_p, Z.r_mt, Z.mm_o, Z.mm_p, Z.mm_q, Z.mm_r, Z.mm_s, Z.f_app, Z.f_ext, Z.ex_s, Z.f_popAt, Z.r_setIx, Z.si_o, Z.si_p, Z.si_q, Z.si_r, Z.sl_s, Z.r_augIx, Z.ai_o, Z.ai_p, Z.ai_q, Z.ai_r, Z.ai_s, Z.r_getL, Z.gl_s, Z.ip_add, Z.ip_sub, Z.r_aug, Z.ag_o, Z.ag_p, Z.ag_q, Z.r_ifE, Z.i_t, Z.i_f, Z.i_o, Z.r_andV, Z.av_o, Z.av_t, Z.av_f, Z.onB_K, Z.oBK_s, Z.r_chain, Z.ch_a, Z.ch_b, Z.ch_t, Z.ch_f, Z.ch_d, Z.ch_e, Z.r_chain3, Z.c3_a, Z.c3_b, Z.c3_t, Z.c3_f, Z.c3_d, Z.r_sl, Z.sl_a, Z.sl_b, Z.sl_c, Z.pt_n, Z.pt_s, Z.pt_o, Z.pt_i, Z.gs_d, Z.gs_r, Z.gs_s, Z.gSl_l, Z.gSl_t, Z.r_it, Z.it_l, Z.it_t, Z.r_enum, Z.en_l, Z.en_t, Z.r_rng1, Z.r_rng2, Z.r1_o, Z.r2_o, Z.r_for, Z.fo_o, Z.bd_o, Z.for_nil, Z.fl_n, Z.fl_c, Z.fl_b, Z.fl_r, Z.wc_t, Z.wc_f, Z.wb_n, Z.wb_r, Z.lc_nil, Z.lc_z, Z.lc_t, Z.lc_f, Z.lc_b, Z.lc_c, Z.r_lc, Z.lm_o, Z.lm_p, Z.gAdd_ii, Z.gAdd_ll, Z.gAdd_tt, Z.gSub_ii, Z.gMul_ii, Z.gDiv_ii, Z.gMod_ii, Z.gPow_ii, Z.gNeg_i, Z.bV_s, Z.gIx_l, Z.gIx_t, Z.gLen_l, Z.gLen_t, Z.gTup_l, Z.gTup_t, Z.gLst_l, Z.gLst_t, Z.gInt_i, Z.gInt_b, Z.gAbs_i, Z.gNot_b, Z.gZip_tt, Z.gZip_ll, Z.gAll_l, Z.gAny_l, Z.gSum_l, Z.gLRg1, Z.atI_0, Z.atI_1, Z.atI_2, Z.atI_3, Z.gS0, Z.gSj, Z.tS0, Z.tSj, Z.sS0, Z.sSj, Z.tSe, Z.r_lc2, Z.l2_o, Z.tL_l, Z.tL_t, Z.tL_i, Z.blsOf_true, Z.all_true, gEq_ii, gNe_ii, gEq_bb, gNe_bb, gLt_ii, gLe_ii, gGt_ii, gGe_ii, sub_sub_drop, HT.sIx_none, take_self, take_set, len_set, set_set, r_setL, putD, ixN, isi_b, isTy, lc_cons, is_integer_ok, wipeE, blsOf]
    simp [m_are_integers, Z.r_var, Z.r_varK, Z.r_C, Z.r_fn, Z.r_yes, Z.rd_d, Z.rd_r, Z.rdK_l, Z.rdK_f, Z.r_on1, Z.r_on2, Z.o1_s, Z.o2_s, Z.r_outN, Z.oK_v, Z.oK_l, Z.r_m1, Z.m1_o, Z.r_m2, Z.m2_o, Z.m2_p, Z.r_mB, Z.mB_o, Z.r_nil, Z.r_cons, Z.cn_o, Z.cn_p, Z.a1_s, Z.a2_s, Z.pu_nil, Z.pu_cons, Z.puK_s, Z.r_tup, Z.r_lst, Z.tp_s, Z.lt_s, Z.okLen_if, Z.r_fz, Z.fz_d, Z.fz_f, Z.fz_s, Z.fz_r, Z.fzR_l, Z.fzR_f, Z.r_T, Z.t_o, Z.tL_b, Z.r_not, Z.nt_o, Z.r_and, Z.r_or, Z.an_t, Z.an_f, Z.or_t, Z.or_f, Z.r_seq, Z.sq_n, Z.sq_r, Z.sq_b, Z.sq_c, Z.r_drop, Z.dr_o, Z.r_ret, Z.rt_o, Z.r_retN, Z.r_if, Z.if_o, Z.if_t', Z.if_f', Z.r_skip, Z.r_bk, Z.r_ct, Z.r_set, Z.st_o, Z.r_asg, Z.as_o, Z.as_p, Z.g_nm, Z.g_tp, Z.g_nil, Z.g_cons, Z.gc_o, Z.r_par, Z.pr_o, Z.pr_p, Z.sA_nil, Z.sA_cons, Z.r_fnM, Z.fn_n, Z.fn_d, Z.fn_r, Z.fr_l, Z.fr_f, Z.fr_i, Z.r_call, Z.cl_o, Z.r_callV, Z.cv_s, Z.in_r, Z.in_s, Z.r_fld, Z.fd_o, Z.fd_p, Z.fd_q, Z.r_setF, Z.sf_o, Z.sf_p, Z.sf_q, Z.r_meth, Z.mt_o, Z.mt_p, Z.mt_q, Z.r_make, Z.mk_o, Z.mk_p, Z.r_mt, Z.mm_o, Z.mm_p, Z.mm_q, Z.mm_r, Z.mm_s, Z.f_app, Z.f_ext, Z.ex_s, Z.f_popAt, Z.r_setIx, Z.si_o, Z.si_p, Z.si_q, Z.si_r, Z.sl_s, Z.r_augIx, Z.ai_o, Z.ai_p, Z.ai_q, Z.ai_r, Z.ai_s, Z.r_getL, Z.gl_s, Z.ip_add, Z.ip_sub, Z.r_aug, Z.ag_o, Z.ag_p, Z.ag_q, Z.r_ifE, Z.i_t, Z.i_f, Z.i_o, Z.r_andV, Z.av_o, Z.av_t, Z.av_f, Z.onB_K, Z.oBK_s, Z.r_chain, Z.ch_a, Z.ch_b, Z.ch_t, Z.ch_f, Z.ch_d, Z.ch_e, Z.r_chain3, Z.c3_a, Z.c3_b, Z.c3_t, Z.c3_f, Z.c3_d, Z.r_sl, Z.sl_a, Z.sl_b, Z.sl_c, Z.pt_n, Z.pt_s, Z.pt_o, Z.pt_i, Z.gs_d, Z.gs_r, Z.gs_s, Z.gSl_l, Z.gSl_t, Z.r_it, Z.it_l, Z.it_t, Z.r_enum, Z.en_l, Z.en_t, Z.r_rng1, Z.r_rng2, Z.r1_o, Z.r2_o, Z.r_for, Z.fo_o, Z.bd_o, Z.for_nil, Z.fl_n, Z.fl_c, Z.fl_b, Z.fl_r, Z.wc_t, Z.wc_f, Z.wb_n, Z.wb_r, Z.lc_nil, Z.lc_z, Z.lc_t, Z.lc_f, Z.lc_b, Z.lc_c, Z.r_lc, Z.lm_o, Z.lm_p, Z.gAdd_ii, Z.gAdd_ll, Z.gAdd_tt, Z.gSub_ii, Z.gMul_ii, Z.gDiv_ii, Z.gMod_ii, Z.gPow_ii, Z.gNeg_i, Z.bV_s, Z.gIx_l, Z.gIx_t, Z.gLen_l, Z.gLen_t, Z.gTup_l, Z.gTup_t, Z.gLst_l, Z.gLst_t, Z.gInt_i, Z.gInt_b, Z.gAbs_i, Z.gNot_b, Z.gZip_tt, Z.gZip_ll, Z.gAll_l, Z.gAny_l, Z.gSum_l, Z.gLRg1, Z.atI_0, Z.atI_1, Z.atI_2, Z.atI_3, Z.gS0, Z.gSj, Z.tS0, Z.tSj, Z.sS0, Z.sSj, Z.tSe, Z.r_lc2, Z.l2_o, Z.tL_l, Z.tL_t, Z.tL_i, Z.blsOf_true, Z.all_true, gEq_ii, gNe_ii, gEq_bb, gNe_bb, gLt_ii, gLe_ii, gGt_ii, gGe_ii, sub_sub_drop, HT.sIx_none, take_self, take_set, len_set, set_set, r_setL, putD, ixN, h2]
  simp [m_is_pair, Z.r_var, Z.r_varK, Z.r_C, Z.r_fn, Z.r_yes, Z.rd_d, Z.rd_r, Z.rdK_l, Z.rdK_f, Z.r_on1, Z.r_on2, Z.o1_s, Z.o2_s, Z.r_outN, Z.oK_v, Z.oK_l, Z.r_m1, Z.m1_o, Z.r_m2, Z.m2_o, Z.m2_p, Z.r_mB, Z.mB_o, Z.r_nil, Z.r_cons, Z.cn_o, Z.cn_p, Z.a1_s, Z.a2_s, Z.pu_nil, Z.pu_cons, Z.puK_s, Z.r_tup, Z.r_lst, Z.tp_s, Z.lt_s, Z.okLen_if, Z.r_fz, Z.fz_d, Z.fz_f, Z.fz_s, Z.fz_r, Z.fzR_l, Z.fzR_f, Z.r_T, Z.t_o, Z.tL_b, Z.r_not, Z.nt_o, Z.r_and, Z.r_or, Z.an_t, Z.an_f, Z.or_t, Z.or_f, Z.r_seq, Z.sq_n, Z.sq_r, Z.sq_b, Z.sq_c, Z.r_drop, Z.dr_o, Z.r_ret, Z.rt_o, Z.r_retN, Z.r_if, Z.if_o, Z.if_t', Z.if_f', Z.r_skip, Z.r_bk, Z.r_ct, Z.r_set, Z.st_o, Z.r_asg, Z.as_o, Z.as_p, Z.g_nm, Z.g_tp, Z.g_nil, Z.g_cons, Z.gc_o, Z.r_par, Z.pr_o, Z.pr_p, Z.sA_nil, Z.sA_cons, Z.r_fnM, Z.fn_n, Z.fn_d, Z.fn_r, Z.fr_l, Z.fr_f, Z.fr_i, Z.r_call, Z.cl_o, Z.r_callV, Z.cv_s, Z.in_r, Z.in_s, Z.r_fld, Z.fd_o, Z.fd_p, Z.fd_q, Z.r_setF, Z.sf_o, Z.sf_p, Z.sf_q, Z.r_meth, Z.mt_o, Z.mt_p, Z.mt_q, Z.r_make, Z.mk_o, Z.mk_p, Z.r_mt, Z.mm_o, Z.mm_p, Z.mm_q, Z.mm_r, Z.mm_s, Z.f_app, Z.f_ext, Z.ex_s, Z.f_popAt, Z.r_setIx, Z.si_o, Z.si_p, Z.si_q, Z.si_r, Z.sl_s, Z.r_augIx, Z.ai_o, Z.ai_p, Z.ai_q, Z.ai_r, Z.ai_s, Z.r_getL, Z.gl_s, Z.ip_add, Z.ip_sub, Z.r_aug, Z.ag_o, Z.ag_p, Z.ag_q, Z.r_ifE, Z.i_t, Z.i_f, Z.i_o, Z.r_andV, Z.av_o, Z.av_t, Z.av_f, Z.onB_K, Z.oBK_s, Z.r_chain, Z.ch_a, Z.ch_b, Z.ch_t, Z.ch_f, Z.ch_d, Z.ch_e, Z.r_chain3, Z.c3_a, Z.c3_b, Z.c3_t, Z.c3_f, Z.c3_d, Z.r_sl, Z.sl_a, Z.sl_b, Z.sl_c, Z.pt_n, Z.pt_s, Z.pt_o, Z.pt_i, Z.gs_d, Z.gs_r, Z.gs_s, Z.gSl_l, Z.gSl_t, Z.r_it, Z.it_l, Z.it_t, Z.r_enum, Z.en_l, Z.en_t, Z.r_rng1, Z.r_rng2, Z.r1_o, Z.r2_o, Z.r_for, Z.fo_o, Z.bd_o, Z.for_nil, Z.fl_n, Z.fl_c, Z.fl_b, Z.fl_r, Z.wc_t, Z.wc_f, Z.wb_n, Z.wb_r, Z.lc_nil, Z.lc_z, Z.lc_t, Z.lc_f, Z.lc_b, Z.lc_c, Z.r_lc, Z.lm_o, Z.lm_p, Z.gAdd_ii, Z.gAdd_ll, Z.gAdd_tt, Z.gSub_ii, Z.gMul_ii, Z.gDiv_ii, Z.gMod_ii, Z.gPow_ii, Z.gNeg_i, Z.bV_s, Z.gIx_l, Z.gIx_t, Z.gLen_l, Z.gLen_t, Z.gTup_l, Z.gTup_t, Z.gLst_l, Z.gLst_t, Z.gInt_i, Z.gInt_b, Z.gAbs_i, Z.gNot_b, Z.gZip_tt, Z.gZip_ll, Z.gAll_l, Z.gAny_l, Z.gSum_l, Z.gLRg1, Z.atI_0, Z.atI_1, Z.atI_2, Z.atI_3, Z.gS0, Z.gSj, Z.tS0, Z.tSj, Z.sS0, Z.sSj, Z.tSe, Z.r_lc2, Z.l2_o, Z.tL_l, Z.tL_t, Z.tL_i, Z.blsOf_true, Z.all_true, gEq_ii, gNe_ii, gEq_bb, gNe_bb, gLt_ii, gLe_ii, gGt_ii, gGe_ii, sub_sub_drop, HT.sIx_none, take_self, take_set, len_set, set_set, r_setL, putD, ixN, h]
def IsPr (d : D) : Prop := ∃ i j : Int, d = .tuple [.int i, .int j]
theorem are_pairs_ok {S : Sto} {ts : List D} (h : ∀ d ∈ ts, IsPr d) (hl : ts.length ≤ 1000000) : p_are_pairs [.d (.tuple ts)] S = .ok (.d (.bool true)) S := by
  unfold p_are_pairs
  have h2 : p_are_all (tab1 "is_pair" p_is_pair) [.d (.tuple ts), .f "is_pair"] S = .ok (.d (.bool true)) S := by
    unfold p_are_all
    simp [m_are_all, Z.r_var, Z.r_varK, Z.r_C, Z.r_fn, Z.r_yes, Z.rd_d, Z.rd_r, Z.rdK_l, Z.rdK_f, Z.r_on1, Z.r_on2, Z.o1_s, Z.o2_s, Z.r_outN, Z.oK_v, Z.oK_l, Z.r_m1, Z.m1_o, Z.r_m2, Z.m2_o, Z.m2_p, Z.r_mB, Z.mB_o, Z.r_nil, Z.r_cons, Z.cn_o, Z.cn_p, Z.a1_s, Z.a2_s, Z.pu_nil, Z.pu_cons, Z.puK_s, Z.r_tup, Z.r_lst, Z.tp_s, Z.lt_s, Z.okLen_if, Z.r_fz, Z.fz_d, Z.fz_f, Z.fz_s, Z.fz_r, Z.fzR_l, Z.fzR_f, Z.r_T, Z.t_o, Z.tL_b, Z.r_not, Z.nt_o, Z.r_and, Z.r_or, Z.an_t, Z.an_f, Z.or_t, Z.or_f, Z.r_seq, Z.sq_n, Z.sq_r, Z.sq_b, Z.sq_c, Z.r_drop, Z.dr_o, Z.r_ret, Z.rt_o, Z.r_retN, Z.r_if, Z.if_o, Z.if_t', Z.if_f', Z.r_skip, Z.r_bk, Z.r_ct, Z.r_set, Z.st_o, Z.r_asg, Z.as_o, Z.as_p, Z.g_nm, Z.g_tp, Z.g_nil, Z.g_cons, Z.gc_o, Z.r_par, Z.pr_o, Z.pr_p, Z.sA_nil, Z.sA_cons, Z.r_fnM, Z.fn_n, Z.fn_d, Z.fn_r, Z.fr_l, Z.fr_f, Z.fr_i, Z.r_call, Z.cl_o, Z.r_callV, Z.cv_s, Z.in_r, Z.in_s, Z.r_fld, Z.fd_o, Z.fd_p, Z.fd_q, Z.r_setF, Z.sf_o, Z.sf_p, Z.sf_q, Z.r_meth, Z.mt_o, Z.mt_p, Z.mt_q, Z.r_make, Z.mk_o, Z.mk_p, Z.r_mt, Z.mm_o, Z.mm_p, Z.mm_q, Z.mm_r, Z.mm_s, Z.f_app, Z.f_ext, Z.ex_s, Z.f_popAt, Z.r_setIx, Z.si_o, Z.si_p, Z.si_q, Z.si_r, Z.sl_s, Z.r_augIx, Z.ai_o, Z.ai_p, Z.ai_q, Z.ai_r, Z.ai_s, Z.r_getL, Z.gl_s, Z.ip_add, Z.ip_sub, Z.r_aug, Z.ag_o, Z.ag_p, Z.ag_q, Z.r_ifE, Z.i_t, Z.i_f, Z.i_o, Z.r_andV, Z.av_o, Z.av_t, Z.av_f, Z.onB_K, Z.oBK_s, Z.r_chain, Z.ch_a, Z.ch_b, Z.ch_t, Z.ch_f, Z.ch_d, Z.ch_e, Z.r_chain3, Z.c3_a, Z.c3_b, Z.c3_t, Z.c3_f, Z.c3_d, Z.r_sl, Z.sl_a, Z.sl_b, Z.sl_c, Z.pt_n, Z.pt_s, Z.pt_o, Z.pt_i, Z.gs_d, Z.gs_r, Z.gs_s, Z.gSl_l, Z.gSl_t, Z.r_it, Z.it_l, Z.it_t, Z.r_enum, Z.en_l, Z.en_t, Z.r_rng1, Z.r_rng2, Z.r1_o, Z.r2_o, Z.r_for, Z.fo_o, Z.bd_o, Z.for_nil, Z.fl_n, Z.fl_c, Z.fl_b, Z.fl_r, Z.wc_t, Z.wc_f, Z.wb_n, Z.wb_r, Z.lc_nil, Z.lc_z, Z.lc_t, Z.lc_f, Z.lc_b, Z.lc_c, Z.r_lc, Z.lm_o, Z.lm_p, Z.gAdd_ii, Z.gAdd_ll, Z.gAdd_tt, Z.gSub_ii, Z.gMul_ii, Z.gDiv_ii, Z.gMod_ii, Z.gPow_ii, Z.gNeg_i, Z.bV_s, Z.gIx_l, Z.gIx_t, Z.gLen_l, Z.gLen_t, Z.gTup_l, Z.gTup_t, Z.gLst_l, Z.gLst_t, Z.gInt_i, Z.gInt_b, Z.gAbs_i, Z.gNot_b, Z.gZip_tt, Z.gZip_ll, Z.gAll_l, Z.gAny_l, Z.gSum_l, Z.gLRg1, Z.atI_0, Z.atI_1, Z.atI_2, Z.atI_3, Z.gS0, Z.gSj, Z.tS0, Z.tSj, Z.sS0, Z.sSj, Z.tSe, Z.r_lc2, Z.l2_o, Z.tL_l, Z.tL_t, Z.tL_i, Z.blsOf_true, Z.all_true, gEq_ii, gNe_ii, gEq_bb, gNe_bb, gLt_ii, gLe_ii, gGt_ii, gGe_ii, sub_sub_drop, HT.sIx_none, take_self, take_set, len_set, set_set, r_setL, putD, ixN, isi_b, isTy, wipeE]
    rw [lc_map (fun _ => .bool true) (by omega)]
    · simp [Z.r_var, Z.r_varK, Z.r_C, Z.r_fn, Z.r_yes, Z.rd_d, Z.rd_r, Z.rdK_l, Z.rdK_f, Z.r_on1, Z.r_on2, Z.o1_s, Z.o2_s, Z.r_outN, Z.oK_v, Z.oK_l, Z.r_m1, Z.m1_o, Z.r_m2, Z.m2_o, Z.m2_p, Z.r_mB, Z.mB_o, Z.r_nil, Z.r_cons, Z.cn_o, Z.cn_p, Z.a1_s, Z.a2_s, Z.pu_nil, Z.pu_cons, Z.puK_s, Z.r_tup, Z.r_lst, Z.tp_s, Z.lt_s, Z.okLen_if, Z.r_fz, Z.fz_d, Z.fz_f, Z.fz_s, Z.fz_r, Z.fzR_l, Z.fzR_f, Z.r_T, Z.t_o, Z.tL_b, Z.r_not, Z.nt_o, Z.r_and, Z.r_or, Z.an_t, Z.an_f, Z.or_t, Z.or_f, Z.r_seq, Z.sq_n, Z.sq_r, Z.sq_b, Z.sq_c, Z.r_drop, Z.dr_o, Z.r_ret, Z.rt_o, Z.r_retN, Z.r_if, Z.if_o, Z.if_t', Z.if_f', Z.r_skip, Z.r_bk, Z.r_ct, Z.r_set, Z.st_o, Z.r_asg, Z.as_o, Z.as_p, Z.g_nm, Z.g_tp, Z.g_nil, Z.g_cons, Z.gc_o, Z.r_par, Z.pr_o, Z.pr_p, Z.sA_nil, Z.sA_cons, Z.r_fnM, Z.fn_n, Z.fn_d, Z.fn_r, Z.fr_l, Z.fr_f, Z.fr_i, Z.r_call, Z.cl_o, Z.r_callV, Z.cv_s, Z.in_r, Z.in_s, Z.r_fld, Z.fd_o, Z.fd_p, Z.fd_q, Z.r_setF, Z.sf_o, Z.sf_p, Z.sf_q, Z.r_meth, Z.mt_o, Z.mt_p, Z.mt_q, Z.r_make, Z.mk_o, Z.mk_p, Z.r_mt, Z.mm_o, Z.mm_p, Z.mm_q, Z.mm_r, Z.mm_s, Z.f_app, Z.f_ext, Z.ex_s, Z.f_popAt, Z.r_setIx, Z.si_o, Z.si_p, Z.si_q, Z.si_r, Z.sl_s, Z.r_augIx, Z.ai_o, Z.ai_p, Z.ai_q, Z.ai_r, Z.ai_s, Z.r_getL, Z.gl_s, Z.ip_add, Z.ip_sub, Z.r_aug, Z.ag_o, Z.ag_p, Z.ag_q, Z.r_ifE, Z.i_t, Z.i_f, Z.i_o, Z.r_andV, Z.av_o, Z.av_t, Z.av_f, Z.onB_K, Z.oBK_s, Z.r_chain, Z.ch_a, Z.ch_b, Z.ch_t, Z.ch_f, Z.ch_d, Z.ch_e, Z.r_chain3, Z.c3_a, Z.c3_b, Z.c3_t, Z.c3_f, Z.c3_d, Z.r_sl, Z.sl_a, Z.sl_b, Z.sl_c, Z.pt_n, Z.pt_s, Z.pt_o, Z.pt_i, Z.gs_d, Z.gs_r, Z.gs_s, Z.gSl_l, Z.gSl_t, Z.r_it, Z.it_l, Z.it_t, Z.r_enum, Z.en_l, Z.en_t, Z.r_rng1, Z.r_rng2, Z.r1_o, Z.r2_o, Z.r_for, Z.fo_o, Z.bd_o, Z.for_nil, Z.fl_n, Z.fl_c, Z.fl_b, Z.fl_r, Z.wc_t, Z.wc_f, Z.wb_n, Z.wb_r, Z.lc_nil, Z.lc_z, Z.lc_t, Z.lc_f, Z.lc_b, Z.lc_c, Z.r_lc, Z.lm_o, Z.lm_p, Z.gAdd_ii, Z.gAdd_ll, Z.gAdd_tt, Z.gSub_ii, Z.gMul_ii, Z.gDiv_ii, Z.gMod_ii, Z.gPow_ii, Z.gNeg_i, Z.bV_s, Z.gIx_l, Z.gIx_t, Z.gLen_l, Z.gLen_t, Z.gTup_l, Z.gTup_t, Z.gLst_l, Z.gLst_t, Z.gInt_i, Z.gInt_b, Z.gAbs_i, Z.gNot_b, Z.gZip_tt, Z.gZip_ll, Z.gAll_l, Z.gAny_l, Z.gSum_l, Z.gLRg1, Z.atI_0, Z.atI_1, Z.atI_2, Z.atI_3, Z.gS0, Z.gSj, Z.tS0, Z.tSj, Z.sS0, Z.sSj, Z.tSe, Z.r_lc2, Z.l2_o, Z.tL_l, Z.tL_t, Z.tL_i, Z.blsOf_true, Z.all_true, gEq_ii, gNe_ii, gEq_bb, gNe_bb, gLt_ii, gLe_ii, gGt_ii, gGe_ii, sub_sub_drop, HT.sIx_none, take_self, take_set, len_set, set_set, r_setL, putD, ixN, blsOf_true]
    · intro d hd acc
      obtain ⟨i, j, rfl⟩ := h d hd
      refine ⟨[some (.d (.tuple ts)), some (.f "is_pair"), some (.d (.tuple [.int i, .int j]))], ?_, ?_, ?_⟩ <;> simp [Z.r_var, Z.r_varK, Z.r_C, Z.r_fn, Z.r_yes, Z.rd_d, Z.rd_r, Z.rdK_l, Z.rdK_f, Z.r_on1, Z.r_on2, Z.o1_s, Z.o2_s, Z.r_outN, Z.oK_v, Z.oK_l, Z.r_m1, Z.m1_o, Z.r_m2, Z.m2_o, Z.m2_p, Z.r_mB, Z.mB_o, Z.r_nil, Z.r_cons, Z.cn_o, Z.cn_p, Z.a1_s, Z.a2_s, Z.pu_nil, Z.pu_cons, Z.puK_s, Z.r_tup, Z.r_lst, Z.tp_s, Z.lt_s, Z.okLen_if, Z.r_fz, Z.fz_d, Z.fz_f, Z.fz_s, Z.fz_r, Z.fzR_l, Z.fzR_f, Z.r_T, Z.t_o, Z.tL_b, Z.r_not, Z.nt_o, Z.r_and, Z.r_or, Z.an_t, Z.an_f, Z.or_t, Z.or_f, Z.r_seq, Z.sq_n, Z.sq_r, Z.sq_b, Z.sq_c, Z.r_drop, Z.dr_o, Z.r_ret, Z.rt_o, Z.r_retN, Z.r_if, Z.if_o, Z.if_t', Z.if_f', Z.r_skip, Z.r_bk, Z.r_ct, Z.r_set, Z.st_o, Z.r_asg, Z.as_o, Z.as_p, Z.g_nm, Z.g_tp, Z.g_nil, Z.g_cons, Z.gc_o, Z.r_par, Z.pr_o, Z.pr_p, Z.sA_nil, Z.sA_cons, Z.r_fnM, Z.fn_n, Z.fn_d, Z.fn_r, Z.fr_l, Z.fr_f, Z.fr_i, Z.r_call, Z.cl_o, Z.r_callV, Z.cv_s, Z.in_r, Z.in_s, Z.r_fld, Z.fd_o, Z.fd_p, Z.fd_q, Z.r_setF, Z.sf_o, Z.sf_p, Z.sf_q, Z.r_meth, Z.mt_o, Z.mt_p, Z.mt_q, Z.r_make, Z.mk_o, Z.mk_p, Z.r_mt, Z.mm_o, Z.mm_p, Z.mm_q, Z.mm_r, Z.mm_s, Z.f_app, Z.f_ext, Z.ex_s, Z.f_popAt, Z.r_setIx, Z.si_o, Z.si_p, Z.si_q, Z.si_r, Z.sl_s, Z.r_augIx, Z.ai_o, Z.ai_p, Z.ai_q, Z.ai_r, Z.ai_s, Z.r_getL, Z.gl_s, Z.ip_add, Z.ip_sub, Z.r_aug, Z.ag_o, Z.ag_p, Z.ag_q, Z.r_ifE, Z.i_t, Z.i_f, Z.i_o, Z.r_andV, Z.av_o, Z.av_t, Z.av_f, Z.onB_K, Z.oBK_s, Z.r_chain, Z.ch_a, Z.ch_b, Z.ch_t, Z.ch_f, Z.ch_d, Z.ch_e, Z.r_chain3, Z.c3_a, Z.c3_b, Z.c3_t, Z.c3_f, Z.c3_d, Z.r_sl, Z.sl_a, Z.sl_b, Z.sl_c, Z.pt_n, Z.pt_s, Z.pt_o, Z.pt_i, Z.gs_d, Z.gs_r, Z.gs_s, Z.gSl_l, Z.gSl_t, Z.r_it, Z.it_l, Z.it_t, Z.r_enum, Z.en_l, Z.en_t, Z.r_rng1, Z.r_rng2, Z.r1_o, Z.r2_o, Z.r_for, Z.fo_o, Z.bd_o, Z.for_nil, Z.fl_n, Z.fl_c, Z.fl_b, Z.fl_r, Z.wc_t, Z.wc_f, Z.wb_n, Z.wb_r, Z.lc_nil, Z.lc_z, Z.lc_t, Z.lc_f, Z.lc_b, Z.lc_c, Z.r_lc, Z.lm_o, Z.lm_p, Z.gAdd_ii, Z.gAdd_ll, Z.gAdd_tt, Z.gSub_ii, Z.gMul_ii, Z.gDiv_ii, Z.gMod_ii, Z.gPow_ii, Z.gNeg_i, Z.bV_s, Z.gIx_l, Z.gIx_t, Z.gLen_l, Z.gLen_t, Z.gTup_l, Z.gTup_t, Z.gLst_l, Z.gLst_t, Z.gInt_i, Z.gInt_b, Z.gAbs_i, Z.gNot_b, Z.gZip_tt, Z.gZip_ll, Z.gAll_l, Z.gAny_l, Z.gSum_l, Z.gLRg1, Z.atI_0, Z.atI_1, Z.atI_2, Z.atI_3, Z.gS0, Z.gSj, Z.tS0, Z.tSj, Z.sS0, Z.sSj, Z.tSe, Z.r_lc2, Z.l2_o, Z.tL_l, Z.tL_t, Z.tL_i, Z.blsOf_true, Z.all_true, gEq_ii, gNe_ii, gEq_bb, gNe_bb, gLt_ii, gLe_ii, gGt_ii, gGe_ii, sub_sub_drop, HT.sIx_none, take_self, take_set, len_set, set_set, r_setL, putD, ixN, is_pair_ok]
  simp [m_are_pairs, Z.r_var, Z.r_varK, Z.r_C, Z.r_fn, Z.r_yes, Z.rd_d, Z.rd_r, Z.rdK_l, Z.rdK_f, Z.r_on1, Z.r_on2, Z.o1_s, Z.o2_s, Z.r_outN, Z.oK_v, Z.oK_l, Z.r_m1, Z.m1_o, Z.r_m2, Z.m2_o, Z.m2_p, Z.r_mB, Z.mB_o, Z.r_nil, Z.r_cons, Z.cn_o, Z.cn_p, Z.a1_s, Z.a2_s, Z.pu_nil, Z.pu_cons, Z.puK_s, Z.r_tup, Z.r_lst, Z.tp_s, Z.lt_s, Z.okLen_if, Z.r_fz, Z.fz_d, Z.fz_f, Z.fz_s, Z.fz_r, Z.fzR_l, Z.fzR_f, Z.r_T, Z.t_o, Z.tL_b, Z.r_not, Z.nt_o, Z.r_and, Z.r_or, Z.an_t, Z.an_f, Z.or_t, Z.or_f, Z.r_seq, Z.sq_n, Z.sq_r, Z.sq_b, Z.sq_c, Z.r_drop, Z.dr_o, Z.r_ret, Z.rt_o, Z.r_retN, Z.r_if, Z.if_o, Z.if_t', Z.if_f', Z.r_skip, Z.r_bk, Z.r_ct, Z.r_set, Z.st_o, Z.r_asg, Z.as_o, Z.as_p, Z.g_nm, Z.g_tp, Z.g_nil, Z.g_cons, Z.gc_o, Z.r_par, Z.pr_o, Z.pr_p, Z.sA_nil, Z.sA_cons, Z.r_fnM, Z.fn_n, Z.fn_d, Z.fn_r, Z.fr_l, Z.fr_f, Z.fr_i, Z.r_call, Z.cl_o, Z.r_callV, Z.cv_s, Z.in_r, Z.in_s, Z.r_fld, Z.fd_o, Z.fd_p, Z.fd_q, Z.r_setF, Z.sf_o, Z.sf_p, Z.sf_q, Z.r_meth, Z.mt_o, Z.mt_p, Z.mt_q, Z.r_make, Z.mk_o, Z.mk_p, Z.r_mt, Z.mm_o, Z.mm_p, Z.mm_q, Z.mm_r, Z.mm_s, Z.f_app, Z.f_ext, Z.ex_s, Z.f_popAt, Z.r_setIx, Z.si_o, Z.si_p, Z.si_q, Z.si_r, Z.sl_s, Z.r_augIx, Z.ai_o, Z.ai_p, Z.ai_q, Z.ai_r, Z.ai_s, Z.r_getL, Z.gl_s, Z.ip_add, Z.ip_sub, Z.r_aug, Z.ag_o, Z.ag_p, Z.ag_q, Z.r_ifE, Z.i_t, Z.i_f, Z.i_o, Z.r_andV, Z.av_o, Z.av_t, Z.av_f, Z.onB_K, Z.oBK_s, Z.r_chain, Z.ch_a, Z.ch_b, Z.ch_t, Z.ch_f, Z.ch_d, Z.ch_e, Z.r_chain3, Z.c3_a, Z.c3_b, Z.c3_t, Z.c3_f, Z.c3_d, Z.r_sl, Z.sl_a, Z.sl_b, Z.sl_c, Z.pt_n, Z.pt_s, Z.pt_o, Z.pt_i, Z.gs_d, Z.gs_r, Z.gs_s, Z.gSl_l, Z.gSl_t, Z.r_it, Z.it_l, Z.it_t, Z.r_enum, Z.en_l, Z.en_t, Z.r_rng1, Z.r_rng2, Z.r1_o, Z.r2_o, Z.r_for, Z.fo_o, Z.bd_o, Z.for_nil, Z.fl_n, Z.fl_c, Z.fl_b, Z.fl_r, Z.wc_t, Z.wc_f, Z.wb_n, Z.wb_r, Z.lc_nil, Z.lc_z, Z.lc_t, Z.lc_f, Z.lc_b, Z.lc_c, Z.r_lc, Z.lm_o, Z.lm_p, Z.gAdd_ii, Z.gAdd_ll, Z.gAdd_tt, Z.gSub_ii, Z.gMul_ii, Z.gDiv_ii, Z.gMod_ii, Z.gPow_ii, Z.gNeg_i, Z.bV_s, Z.gIx_l, Z.gIx_t, Z.gLen_l, Z.gLen_t, Z.gTup_l, Z.gTup_t, Z.gLst_l, Z.gLst_t, Z.gInt_i, Z.gInt_b, Z.gAbs_i, Z.gNot_b, Z.gZip_tt, Z.gZip_ll, Z.gAll_l, Z.gAny_l, Z.gSum_l, Z.gLRg1, Z.atI_0, Z.atI_1, Z.atI_2, Z.atI_3, Z.gS0, Z.gSj, Z.tS0, Z.tSj, Z.sS0, Z.sSj, Z.tSe, Z.r_lc2, Z.l2_o, Z.tL_l, Z.tL_t, Z.tL_i, Z.blsOf_true, Z.all_true, gEq_ii, gNe_ii, gEq_bb, gNe_bb, gLt_ii, gLe_ii, gGt_ii, gGe_ii, sub_sub_drop, HT.sIx_none, take_self, take_set, len_set, set_set, r_setL, putD, ixN, h2]
theorem is_moment_ok {S : Sto} {i : Int} (h0 : -9999 ≤ i) (h1 : i ≤ 9999) : p_is_moment [.d (.int i)] S = .ok (.d (.bool true)) S := by
  unfold p_is_moment
  simp [m_is_moment, Z.r_var, Z.r_varK, Z.r_C, Z.r_fn, Z.r_yes, Z.rd_d, Z.rd_r, Z.rdK_l, Z.rdK_f, Z.r_on1, Z.r_on2, Z.o1_s, Z.o2_s, Z.r_outN, Z.oK_v, Z.oK_l, Z.r_m1, Z.m1_o, Z.r_m2, Z.m2_o, Z.m2_p, Z.r_mB, Z.mB_o, Z.r_nil, Z.r_cons, Z.cn_o, Z.cn_p, Z.a1_s, Z.a2_s, Z.pu_nil, Z.pu_cons, Z.puK_s, Z.r_tup, Z.r_lst, Z.tp_s, Z.lt_s, Z.okLen_if, Z.r_fz, Z.fz_d, Z.fz_f, Z.fz_s, Z.fz_r, Z.fzR_l, Z.fzR_f, Z.r_T, Z.t_o, Z.tL_b, Z.r_not, Z.nt_o, Z.r_and, Z.r_or, Z.an_t, Z.an_f, Z.or_t, Z.or_f, Z.r_seq, Z.sq_n, Z.sq_r, Z.sq_b, Z.sq_c, Z.r_drop, Z.dr_o, Z.r_ret, Z.rt_o, Z.r_retN, Z.r_if, Z.if_o, Z.if_t', Z.if_f', Z.r_skip, Z.r_bk, Z.r_ct, Z.r_set, Z.st_o, Z.r_asg, Z.as_o, Z.as_p, Z.g_nm, Z.g_tp, Z.g_nil, Z.g_cons, Z.gc_o, Z.r_par, Z.pr_o, Z.pr_p, Z.sA_nil, Z.sA_cons, Z.r_fnM, Z.fn_n, Z.fn_d, Z.fn_r, Z.fr_l, Z.fr_f, Z.fr_i, Z.r_call, Z.cl_o, Z.r_callV, Z.cv_s, Z.in_r, Z.in_s, Z.r_fld, Z.fd_o, Z.fd_p, Z.fd_q, Z.r_setF, Z.sf_o, Z.sf_p, Z.sf_q, Z.r_meth, Z.mt_o, Z.mt_p, Z.mt_q, Z.r_make, Z.mk_o, Z.mk_p, Z.r_mt, Z.mm_o, Z.mm_p, Z.mm_q, Z.mm_r, Z.mm_s, Z.f_app, Z.f_ext, Z.ex_s, Z.f_popAt, Z.r_setIx, Z.si_o, Z.si_p, Z.si_q, Z.si_r, Z.sl_s, Z.r_augIx, Z.ai_o, Z.ai_p, Z.ai_q, Z.ai_r, Z.ai_s, Z.r_getL, Z.gl_s, Z.ip_add, Z.ip_sub, Z.r_aug, Z.ag_o, Z.ag_p, Z.ag_q, Z.r_ifE, Z.i_t, Z.i_f, Z.i_o, Z.r_andV, Z.av_o, Z.av_t, Z.av_f, Z.onB_K, Z.oBK_s, Z.r_chain, Z.ch_a, Z.ch_b, Z.ch_t, Z.ch_f, Z.ch_d, Z.ch_e, Z.r_chain3, Z.c3_a, Z.c3_b, Z.c3_t, Z.c3_f, Z.c3_d, Z.r_sl, Z.sl_a, Z.sl_b, Z.sl_c, Z.pt_n, Z.pt_s, Z.pt_o, Z.pt_i, Z.gs_d, Z.gs_r, Z.gs_s, Z.gSl_l, Z.gSl_t, Z.r_it, Z.it_l, Z.it_t, Z.r_enum, Z.en_l, Z.en_t, Z.r_rng1, Z.r_rng2, Z.r1_o, Z.r2_o, Z.r_for, Z.fo_o, Z.bd_o, Z.for_nil, Z.fl_n, Z.fl_c, Z.fl_b, Z.fl_r, Z.wc_t, Z.wc_f, Z.wb_n, Z.wb_r, Z.lc_nil, Z.lc_z, Z.lc_t, Z.lc_f, Z.lc_b, Z.lc_c, Z.r_lc, Z.lm_o, Z.lm_p, Z.gAdd_ii, Z.gAdd_ll, Z.gAdd_tt, Z.gSub_ii, Z.gMul_ii, Z.gDiv_ii, Z.gMod_ii, Z.gPow_ii, Z.gNeg_i, Z.bV_s, Z.gIx_l, Z.gIx_t, Z.gLen_l, Z.gLen_t, Z.gTup_l, Z.gTup_t, Z.gLst_l, Z.gLst_t, Z.gInt_i, Z.gInt_b, Z.gAbs_i, Z.gNot_b, Z.gZip_tt, Z.gZip_ll, Z.gAll_l, Z.gAny_l, Z.gSum_l, Z.gLRg1, Z.atI_0, Z.atI_1, Z.atI_2, Z.atI_3, Z.gS0, Z.gSj, Z.tS0, Z.tSj, Z.sS0, Z.sSj, Z.tSe, Z.r_lc2, Z.l2_o, Z.tL_l, Z.tL_t, Z.tL_i, Z.blsOf_true, Z.all_true, gEq_ii, gNe_ii, gEq_bb, gNe_bb, gLt_ii, gLe_ii, gGt_ii, gGe_ii, sub_sub_drop, HT.sIx_none, take_self, take_set, len_set, set_set, r_setL, putD, ixN, k_MOST_MOMENT, h0, h1]

def SpOk (m : Int) (d : D) : Prop := ∃ c g : Int, d = .tuple [.int c, .int g] ∧ 0 ≤ c ∧ c ≤ g ∧ g ≤ m
theorem SpOk.pr {m : Int} {d : D} (h : SpOk m d) : IsPr d := let ⟨c, g, e, _⟩ := h; ⟨c, g, e⟩
theorem spans_fold {lg : Int} (hl : 0 < lg) : ∀ (ds : List D) (z : Int) (f : List D), (∀ d ∈ f, SpOk (100 + lg) d) → (∀ d ∈ (ds.foldl (spanS lg) (z, f)).2, SpOk (100 + lg) d) ∧ (ds.foldl (spanS lg) (z, f)).2.length = f.length + ds.length
  | [], z, f, h => ⟨h, by simp⟩
  | x :: ds, z, f, h => by
    have h1 := dr_rng (z := nxt z) (m := 100) (by omega)
    have h2 := dr_rng (z := nxt (nxt z)) (m := lg) hl
    obtain ⟨a, b⟩ := spans_fold hl ds (nxt (nxt z)) (f ++ [.tuple [.int (dr (nxt z) 100), .int (dr (nxt z) 100 + dr (nxt (nxt z)) lg)]]) fun d hd => by
      rcases List.mem_append.mp hd with q | q
      · exact h d q
      · rw [List.mem_singleton.mp q]
        exact ⟨_, _, rfl, h1.1, by omega, by omega⟩
    refine ⟨a, ?_⟩
    show (ds.foldl (spanS lg) (nxt (nxt z), _)).2.length = _
    rw [b]
    simp
    omega
theorem spans_ok {n : Nat} {lg z : Int} (hl : 0 < lg) : ∀ d ∈ spans n lg z, SpOk (100 + lg) d := (spans_fold hl _ _ [] fun d hd => by cases hd).1
theorem spans_len {n : Nat} {lg z : Int} (hl : 0 < lg) : (spans n lg z).length = n := by
  unfold spans
  rw [(spans_fold hl _ _ [] fun d hd => by cases hd).2, rgD_len]
  simp
theorem mem_enD {d : D} : ∀ {ts : List D} {i : Nat}, d ∈ enD i ts → ∃ j x, d = .tuple [.int (i + j : Nat), x] ∧ ts[j]? = some x
  | [], _, h => by cases h
  | t :: ts, i, h => by
    rcases List.mem_cons.mp h with q | q
    · exact ⟨0, t, by rw [q]; simp, rfl⟩
    · obtain ⟨j, x, e1, e2⟩ := mem_enD q
      exact ⟨j + 1, x, by rw [e1]; congr 3; omega, e2⟩
theorem checked_visits_ok {S : Sto} {ts : List D} {m : Int} (hm : m ≤ 9999) (h : ∀ d ∈ ts, SpOk m d) (hl : ts.length ≤ 1000000) : p_checked_visits [.d (.int ts.length), .d (.tuple ts)] S = .ok (.d (.tuple ts)) S := by
  unfold p_checked_visits
  simp [m_checked_visits, Z.r_var, Z.r_varK, Z.r_C, Z.r_fn, Z.r_yes, Z.rd_d, Z.rd_r, Z.rdK_l, Z.rdK_f, Z.r_on1, Z.r_on2, Z.o1_s, Z.o2_s, Z.r_outN, Z.oK_v, Z.oK_l, Z.r_m1, Z.m1_o, Z.r_m2, Z.m2_o, Z.m2_p, Z.r_mB, Z.mB_o, Z.r_nil, Z.r_cons, Z.cn_o, Z.cn_p, Z.a1_s, Z.a2_s, Z.pu_nil, Z.pu_cons, Z.puK_s, Z.r_tup, Z.r_lst, Z.tp_s, Z.lt_s, Z.okLen_if, Z.r_fz, Z.fz_d, Z.fz_f, Z.fz_s, Z.fz_r, Z.fzR_l, Z.fzR_f, Z.r_T, Z.t_o, Z.tL_b, Z.r_not, Z.nt_o, Z.r_and, Z.r_or, Z.an_t, Z.an_f, Z.or_t, Z.or_f, Z.r_seq, Z.sq_n, Z.sq_r, Z.sq_b, Z.sq_c, Z.r_drop, Z.dr_o, Z.r_ret, Z.rt_o, Z.r_retN, Z.r_if, Z.if_o, Z.if_t', Z.if_f', Z.r_skip, Z.r_bk, Z.r_ct, Z.r_set, Z.st_o, Z.r_asg, Z.as_o, Z.as_p, Z.g_nm, Z.g_tp, Z.g_nil, Z.g_cons, Z.gc_o, Z.r_par, Z.pr_o, Z.pr_p, Z.sA_nil, Z.sA_cons, Z.r_fnM, Z.fn_n, Z.fn_d, Z.fn_r, Z.fr_l, Z.fr_f, Z.fr_i, Z.r_call, Z.cl_o, Z.r_callV, Z.cv_s, Z.in_r, Z.in_s, Z.r_fld, Z.fd_o, Z.fd_p, Z.fd_q, Z.r_setF, Z.sf_o, Z.sf_p, Z.sf_q, Z.r_meth, Z.mt_o, Z.mt_p, Z.mt_q, Z.r_make, Z.mk_o, Z.mk_p, Z.r_mt, Z.mm_o, Z.mm_p, Z.mm_q, Z.mm_r, Z.mm_s, Z.f_app, Z.f_ext, Z.ex_s, Z.f_popAt, Z.r_setIx, Z.si_o, Z.si_p, Z.si_q, Z.si_r, Z.sl_s, Z.r_augIx, Z.ai_o, Z.ai_p, Z.ai_q, Z.ai_r, Z.ai_s, Z.r_getL, Z.gl_s, Z.ip_add, Z.ip_sub, Z.r_aug, Z.ag_o, Z.ag_p, Z.ag_q, Z.r_ifE, Z.i_t, Z.i_f, Z.i_o, Z.r_andV, Z.av_o, Z.av_t, Z.av_f, Z.onB_K, Z.oBK_s, Z.r_chain, Z.ch_a, Z.ch_b, Z.ch_t, Z.ch_f, Z.ch_d, Z.ch_e, Z.r_chain3, Z.c3_a, Z.c3_b, Z.c3_t, Z.c3_f, Z.c3_d, Z.r_sl, Z.sl_a, Z.sl_b, Z.sl_c, Z.pt_n, Z.pt_s, Z.pt_o, Z.pt_i, Z.gs_d, Z.gs_r, Z.gs_s, Z.gSl_l, Z.gSl_t, Z.r_it, Z.it_l, Z.it_t, Z.r_enum, Z.en_l, Z.en_t, Z.r_rng1, Z.r_rng2, Z.r1_o, Z.r2_o, Z.r_for, Z.fo_o, Z.bd_o, Z.for_nil, Z.fl_n, Z.fl_c, Z.fl_b, Z.fl_r, Z.wc_t, Z.wc_f, Z.wb_n, Z.wb_r, Z.lc_nil, Z.lc_z, Z.lc_t, Z.lc_f, Z.lc_b, Z.lc_c, Z.r_lc, Z.lm_o, Z.lm_p, Z.gAdd_ii, Z.gAdd_ll, Z.gAdd_tt, Z.gSub_ii, Z.gMul_ii, Z.gDiv_ii, Z.gMod_ii, Z.gPow_ii, Z.gNeg_i, Z.bV_s, Z.gIx_l, Z.gIx_t, Z.gLen_l, Z.gLen_t, Z.gTup_l, Z.gTup_t, Z.gLst_l, Z.gLst_t, Z.gInt_i, Z.gInt_b, Z.gAbs_i, Z.gNot_b, Z.gZip_tt, Z.gZip_ll, Z.gAll_l, Z.gAny_l, Z.gSum_l, Z.gLRg1, Z.atI_0, Z.atI_1, Z.atI_2, Z.atI_3, Z.gS0, Z.gSj, Z.tS0, Z.tSj, Z.sS0, Z.sSj, Z.tSe, Z.r_lc2, Z.l2_o, Z.tL_l, Z.tL_t, Z.tL_i, Z.blsOf_true, Z.all_true, gEq_ii, gNe_ii, gEq_bb, gNe_bb, gLt_ii, gLe_ii, gGt_ii, gGe_ii, sub_sub_drop, HT.sIx_none, take_self, take_set, len_set, set_set, r_setL, putD, ixN, are_pairs_ok (fun d hd => (h d hd).pr) hl]
  refine for_then (fun o => fnK S.length (sqK _ o)) (fun r (s : Unit) E S' => ∃ a b c, E = [some (.d (.int ts.length)), some (.d (.tuple ts)), a, b, c] ∧ S = S') (fun s _ => s) () ?_ ?_ ?_
  · exact ⟨none, none, none, rfl, rfl⟩
  · rintro r s d E S' hd ⟨a, b, c, rfl, rfl⟩
    obtain ⟨j, x, rfl, hx⟩ := mem_enD hd
    obtain ⟨u, v, rfl, h0, h1, h2⟩ := h x (List.mem_of_getElem? hx)
    refine ⟨[some (.d (.int ts.length)), some (.d (.tuple ts)), some (.d (.int (0 + j : Nat))), some (.d (.int u)), some (.d (.int v))], S, .inl ?_, ⟨_, _, _, rfl, rfl⟩⟩
    simp [Z.r_var, Z.r_varK, Z.r_C, Z.r_fn, Z.r_yes, Z.rd_d, Z.rd_r, Z.rdK_l, Z.rdK_f, Z.r_on1, Z.r_on2, Z.o1_s, Z.o2_s, Z.r_outN, Z.oK_v, Z.oK_l, Z.r_m1, Z.m1_o, Z.r_m2, Z.m2_o, Z.m2_p, Z.r_mB, Z.mB_o, Z.r_nil, Z.r_cons, Z.cn_o, Z.cn_p, Z.a1_s, Z.a2_s, Z.pu_nil, Z.pu_cons, Z.puK_s, Z.r_tup, Z.r_lst, Z.tp_s, Z.lt_s, Z.okLen_if, Z.r_fz, Z.fz_d, Z.fz_f, Z.fz_s, Z.fz_r, Z.fzR_l, Z.fzR_f, Z.r_T, Z.t_o, Z.tL_b, Z.r_not, Z.nt_o, Z.r_and, Z.r_or, Z.an_t, Z.an_f, Z.or_t, Z.or_f, Z.r_seq, Z.sq_n, Z.sq_r, Z.sq_b, Z.sq_c, Z.r_drop, Z.dr_o, Z.r_ret, Z.rt_o, Z.r_retN, Z.r_if, Z.if_o, Z.if_t', Z.if_f', Z.r_skip, Z.r_bk, Z.r_ct, Z.r_set, Z.st_o, Z.r_asg, Z.as_o, Z.as_p, Z.g_nm, Z.g_tp, Z.g_nil, Z.g_cons, Z.gc_o, Z.r_par, Z.pr_o, Z.pr_p, Z.sA_nil, Z.sA_cons, Z.r_fnM, Z.fn_n, Z.fn_d, Z.fn_r, Z.fr_l, Z.fr_f, Z.fr_i, Z.r_call, Z.cl_o, Z.r_callV, Z.cv_s, Z.in_r, Z.in_s, Z.r_fld, Z.fd_o, Z.fd_p, Z.fd_q, Z.r_setF, Z.sf_o, Z.sf_p, Z.sf_q, Z.r_meth, Z.mt_o, Z.mt_p, Z.mt_q, Z.r_make, Z.mk_o, Z.mk_p, Z.r_mt, Z.mm_o, Z.mm_p, Z.mm_q, Z.mm_r, Z.mm_s, Z.f_app, Z.f_ext, Z.ex_s, Z.f_popAt, Z.r_setIx, Z.si_o, Z.si_p, Z.si_q, Z.si_r, Z.sl_s, Z.r_augIx, Z.ai_o, Z.ai_p, Z.ai_q, Z.ai_r, Z.ai_s, Z.r_getL, Z.gl_s, Z.ip_add, Z.ip_sub, Z.r_aug, Z.ag_o, Z.ag_p, Z.ag_q, Z.r_ifE, Z.i_t, Z.i_f, Z.i_o, Z.r_andV, Z.av_o, Z.av_t, Z.av_f, Z.onB_K, Z.oBK_s, Z.r_chain, Z.ch_a, Z.ch_b, Z.ch_t, Z.ch_f, Z.ch_d, Z.ch_e, Z.r_chain3, Z.c3_a, Z.c3_b, Z.c3_t, Z.c3_f, Z.c3_d, Z.r_sl, Z.sl_a, Z.sl_b, Z.sl_c, Z.pt_n, Z.pt_s, Z.pt_o, Z.pt_i, Z.gs_d, Z.gs_r, Z.gs_s, Z.gSl_l, Z.gSl_t, Z.r_it, Z.it_l, Z.it_t, Z.r_enum, Z.en_l, Z.en_t, Z.r_rng1, Z.r_rng2, Z.r1_o, Z.r2_o, Z.r_for, Z.fo_o, Z.bd_o, Z.for_nil, Z.fl_n, Z.fl_c, Z.fl_b, Z.fl_r, Z.wc_t, Z.wc_f, Z.wb_n, Z.wb_r, Z.lc_nil, Z.lc_z, Z.lc_t, Z.lc_f, Z.lc_b, Z.lc_c, Z.r_lc, Z.lm_o, Z.lm_p, Z.gAdd_ii, Z.gAdd_ll, Z.gAdd_tt, Z.gSub_ii, Z.gMul_ii, Z.gDiv_ii, Z.gMod_ii, Z.gPow_ii, Z.gNeg_i, Z.bV_s, Z.gIx_l, Z.gIx_t, Z.gLen_l, Z.gLen_t, Z.gTup_l, Z.gTup_t, Z.gLst_l, Z.gLst_t, Z.gInt_i, Z.gInt_b, Z.gAbs_i, Z.gNot_b, Z.gZip_tt, Z.gZip_ll, Z.gAll_l, Z.gAny_l, Z.gSum_l, Z.gLRg1, Z.atI_0, Z.atI_1, Z.atI_2, Z.atI_3, Z.gS0, Z.gSj, Z.tS0, Z.tSj, Z.sS0, Z.sSj, Z.tSe, Z.r_lc2, Z.l2_o, Z.tL_l, Z.tL_t, Z.tL_i, Z.blsOf_true, Z.all_true, gEq_ii, gNe_ii, gEq_bb, gNe_bb, gLt_ii, gLe_ii, gGt_ii, gGe_ii, sub_sub_drop, HT.sIx_none, take_self, take_set, len_set, set_set, r_setL, putD, ixN, is_moment_ok (show -9999 ≤ u by omega) (by omega), is_moment_ok (show -9999 ≤ v by omega) (by omega), show ¬ v < u by omega]
  · rintro E' S' ⟨a, b, c, rfl, rfl⟩
    simp [Z.r_var, Z.r_varK, Z.r_C, Z.r_fn, Z.r_yes, Z.rd_d, Z.rd_r, Z.rdK_l, Z.rdK_f, Z.r_on1, Z.r_on2, Z.o1_s, Z.o2_s, Z.r_outN, Z.oK_v, Z.oK_l, Z.r_m1, Z.m1_o, Z.r_m2, Z.m2_o, Z.m2_p, Z.r_mB, Z.mB_o, Z.r_nil, Z.r_cons, Z.cn_o, Z.cn_p, Z.a1_s, Z.a2_s, Z.pu_nil, Z.pu_cons, Z.puK_s, Z.r_tup, Z.r_lst, Z.tp_s, Z.lt_s, Z.okLen_if, Z.r_fz, Z.fz_d, Z.fz_f, Z.fz_s, Z.fz_r, Z.fzR_l, Z.fzR_f, Z.r_T, Z.t_o, Z.tL_b, Z.r_not, Z.nt_o, Z.r_and, Z.r_or, Z.an_t, Z.an_f, Z.or_t, Z.or_f, Z.r_seq, Z.sq_n, Z.sq_r, Z.sq_b, Z.sq_c, Z.r_drop, Z.dr_o, Z.r_ret, Z.rt_o, Z.r_retN, Z.r_if, Z.if_o, Z.if_t', Z.if_f', Z.r_skip, Z.r_bk, Z.r_ct, Z.r_set, Z.st_o, Z.r_asg, Z.as_o, Z.as_p, Z.g_nm, Z.g_tp, Z.g_nil, Z.g_cons, Z.gc_o, Z.r_par, Z.pr_o, Z.pr_p, Z.sA_nil, Z.sA_cons, Z.r_fnM, Z.fn_n, Z.fn_d, Z.fn_r, Z.fr_l, Z.fr_f, Z.fr_i, Z.r_call, Z.cl_o, Z.r_callV, Z.cv_s, Z.in_r, Z.in_s, Z.r_fld, Z.fd_o, Z.fd_p, Z.fd_q, Z.r_setF, Z.sf_o, Z.sf_p, Z.sf_q, Z.r_meth, Z.mt_o, Z.mt_p, Z.mt_q, Z.r_make, Z.mk_o, Z.mk_p, Z.r_mt, Z.mm_o, Z.mm_p, Z.mm_q, Z.mm_r, Z.mm_s, Z.f_app, Z.f_ext, Z.ex_s, Z.f_popAt, Z.r_setIx, Z.si_o, Z.si_p, Z.si_q, Z.si_r, Z.sl_s, Z.r_augIx, Z.ai_o, Z.ai_p, Z.ai_q, Z.ai_r, Z.ai_s, Z.r_getL, Z.gl_s, Z.ip_add, Z.ip_sub, Z.r_aug, Z.ag_o, Z.ag_p, Z.ag_q, Z.r_ifE, Z.i_t, Z.i_f, Z.i_o, Z.r_andV, Z.av_o, Z.av_t, Z.av_f, Z.onB_K, Z.oBK_s, Z.r_chain, Z.ch_a, Z.ch_b, Z.ch_t, Z.ch_f, Z.ch_d, Z.ch_e, Z.r_chain3, Z.c3_a, Z.c3_b, Z.c3_t, Z.c3_f, Z.c3_d, Z.r_sl, Z.sl_a, Z.sl_b, Z.sl_c, Z.pt_n, Z.pt_s, Z.pt_o, Z.pt_i, Z.gs_d, Z.gs_r, Z.gs_s, Z.gSl_l, Z.gSl_t, Z.r_it, Z.it_l, Z.it_t, Z.r_enum, Z.en_l, Z.en_t, Z.r_rng1, Z.r_rng2, Z.r1_o, Z.r2_o, Z.r_for, Z.fo_o, Z.bd_o, Z.for_nil, Z.fl_n, Z.fl_c, Z.fl_b, Z.fl_r, Z.wc_t, Z.wc_f, Z.wb_n, Z.wb_r, Z.lc_nil, Z.lc_z, Z.lc_t, Z.lc_f, Z.lc_b, Z.lc_c, Z.r_lc, Z.lm_o, Z.lm_p, Z.gAdd_ii, Z.gAdd_ll, Z.gAdd_tt, Z.gSub_ii, Z.gMul_ii, Z.gDiv_ii, Z.gMod_ii, Z.gPow_ii, Z.gNeg_i, Z.bV_s, Z.gIx_l, Z.gIx_t, Z.gLen_l, Z.gLen_t, Z.gTup_l, Z.gTup_t, Z.gLst_l, Z.gLst_t, Z.gInt_i, Z.gInt_b, Z.gAbs_i, Z.gNot_b, Z.gZip_tt, Z.gZip_ll, Z.gAll_l, Z.gAny_l, Z.gSum_l, Z.gLRg1, Z.atI_0, Z.atI_1, Z.atI_2, Z.atI_3, Z.gS0, Z.gSj, Z.tS0, Z.tSj, Z.sS0, Z.sSj, Z.tSe, Z.r_lc2, Z.l2_o, Z.tL_l, Z.tL_t, Z.tL_i, Z.blsOf_true, Z.all_true, gEq_ii, gNe_ii, gEq_bb, gNe_bb, gLt_ii, gLe_ii, gGt_ii, gGe_ii, sub_sub_drop, HT.sIx_none, take_self, take_set, len_set, set_set, r_setL, putD, ixN]
theorem are_shifts_ok {S : Sto} {ts : List D} {m : Int} (hm : m ≤ 9999) (h : ∀ d ∈ ts, SpOk m d) (hl : ts.length ≤ 12) : p_are_shifts [.d (.tuple ts)] S = .ok (.d (.bool true)) S := by
  unfold p_are_shifts
  have hl2 : ¬ (12 : Int) < ts.length := by omega
  simp [m_are_shifts, Z.r_var, Z.r_varK, Z.r_C, Z.r_fn, Z.r_yes, Z.rd_d, Z.rd_r, Z.rdK_l, Z.rdK_f, Z.r_on1, Z.r_on2, Z.o1_s, Z.o2_s, Z.r_outN, Z.oK_v, Z.oK_l, Z.r_m1, Z.m1_o, Z.r_m2, Z.m2_o, Z.m2_p, Z.r_mB, Z.mB_o, Z.r_nil, Z.r_cons, Z.cn_o, Z.cn_p, Z.a1_s, Z.a2_s, Z.pu_nil, Z.pu_cons, Z.puK_s, Z.r_tup, Z.r_lst, Z.tp_s, Z.lt_s, Z.okLen_if, Z.r_fz, Z.fz_d, Z.fz_f, Z.fz_s, Z.fz_r, Z.fzR_l, Z.fzR_f, Z.r_T, Z.t_o, Z.tL_b, Z.r_not, Z.nt_o, Z.r_and, Z.r_or, Z.an_t, Z.an_f, Z.or_t, Z.or_f, Z.r_seq, Z.sq_n, Z.sq_r, Z.sq_b, Z.sq_c, Z.r_drop, Z.dr_o, Z.r_ret, Z.rt_o, Z.r_retN, Z.r_if, Z.if_o, Z.if_t', Z.if_f', Z.r_skip, Z.r_bk, Z.r_ct, Z.r_set, Z.st_o, Z.r_asg, Z.as_o, Z.as_p, Z.g_nm, Z.g_tp, Z.g_nil, Z.g_cons, Z.gc_o, Z.r_par, Z.pr_o, Z.pr_p, Z.sA_nil, Z.sA_cons, Z.r_fnM, Z.fn_n, Z.fn_d, Z.fn_r, Z.fr_l, Z.fr_f, Z.fr_i, Z.r_call, Z.cl_o, Z.r_callV, Z.cv_s, Z.in_r, Z.in_s, Z.r_fld, Z.fd_o, Z.fd_p, Z.fd_q, Z.r_setF, Z.sf_o, Z.sf_p, Z.sf_q, Z.r_meth, Z.mt_o, Z.mt_p, Z.mt_q, Z.r_make, Z.mk_o, Z.mk_p, Z.r_mt, Z.mm_o, Z.mm_p, Z.mm_q, Z.mm_r, Z.mm_s, Z.f_app, Z.f_ext, Z.ex_s, Z.f_popAt, Z.r_setIx, Z.si_o, Z.si_p, Z.si_q, Z.si_r, Z.sl_s, Z.r_augIx, Z.ai_o, Z.ai_p, Z.ai_q, Z.ai_r, Z.ai_s, Z.r_getL, Z.gl_s, Z.ip_add, Z.ip_sub, Z.r_aug, Z.ag_o, Z.ag_p, Z.ag_q, Z.r_ifE, Z.i_t, Z.i_f, Z.i_o, Z.r_andV, Z.av_o, Z.av_t, Z.av_f, Z.onB_K, Z.oBK_s, Z.r_chain, Z.ch_a, Z.ch_b, Z.ch_t, Z.ch_f, Z.ch_d, Z.ch_e, Z.r_chain3, Z.c3_a, Z.c3_b, Z.c3_t, Z.c3_f, Z.c3_d, Z.r_sl, Z.sl_a, Z.sl_b, Z.sl_c, Z.pt_n, Z.pt_s, Z.pt_o, Z.pt_i, Z.gs_d, Z.gs_r, Z.gs_s, Z.gSl_l, Z.gSl_t, Z.r_it, Z.it_l, Z.it_t, Z.r_enum, Z.en_l, Z.en_t, Z.r_rng1, Z.r_rng2, Z.r1_o, Z.r2_o, Z.r_for, Z.fo_o, Z.bd_o, Z.for_nil, Z.fl_n, Z.fl_c, Z.fl_b, Z.fl_r, Z.wc_t, Z.wc_f, Z.wb_n, Z.wb_r, Z.lc_nil, Z.lc_z, Z.lc_t, Z.lc_f, Z.lc_b, Z.lc_c, Z.r_lc, Z.lm_o, Z.lm_p, Z.gAdd_ii, Z.gAdd_ll, Z.gAdd_tt, Z.gSub_ii, Z.gMul_ii, Z.gDiv_ii, Z.gMod_ii, Z.gPow_ii, Z.gNeg_i, Z.bV_s, Z.gIx_l, Z.gIx_t, Z.gLen_l, Z.gLen_t, Z.gTup_l, Z.gTup_t, Z.gLst_l, Z.gLst_t, Z.gInt_i, Z.gInt_b, Z.gAbs_i, Z.gNot_b, Z.gZip_tt, Z.gZip_ll, Z.gAll_l, Z.gAny_l, Z.gSum_l, Z.gLRg1, Z.atI_0, Z.atI_1, Z.atI_2, Z.atI_3, Z.gS0, Z.gSj, Z.tS0, Z.tSj, Z.sS0, Z.sSj, Z.tSe, Z.r_lc2, Z.l2_o, Z.tL_l, Z.tL_t, Z.tL_i, Z.blsOf_true, Z.all_true, gEq_ii, gNe_ii, gEq_bb, gNe_bb, gLt_ii, gLe_ii, gGt_ii, gGe_ii, sub_sub_drop, HT.sIx_none, take_self, take_set, len_set, set_set, r_setL, putD, ixN, are_pairs_ok (fun d hd => (h d hd).pr) (Nat.le_trans hl (by decide)), k_MOST_SHIFTS, hl2, wipeE]
  rw [lc_map (fun _ => .bool true) (by omega)]
  · simp [Z.r_var, Z.r_varK, Z.r_C, Z.r_fn, Z.r_yes, Z.rd_d, Z.rd_r, Z.rdK_l, Z.rdK_f, Z.r_on1, Z.r_on2, Z.o1_s, Z.o2_s, Z.r_outN, Z.oK_v, Z.oK_l, Z.r_m1, Z.m1_o, Z.r_m2, Z.m2_o, Z.m2_p, Z.r_mB, Z.mB_o, Z.r_nil, Z.r_cons, Z.cn_o, Z.cn_p, Z.a1_s, Z.a2_s, Z.pu_nil, Z.pu_cons, Z.puK_s, Z.r_tup, Z.r_lst, Z.tp_s, Z.lt_s, Z.okLen_if, Z.r_fz, Z.fz_d, Z.fz_f, Z.fz_s, Z.fz_r, Z.fzR_l, Z.fzR_f, Z.r_T, Z.t_o, Z.tL_b, Z.r_not, Z.nt_o, Z.r_and, Z.r_or, Z.an_t, Z.an_f, Z.or_t, Z.or_f, Z.r_seq, Z.sq_n, Z.sq_r, Z.sq_b, Z.sq_c, Z.r_drop, Z.dr_o, Z.r_ret, Z.rt_o, Z.r_retN, Z.r_if, Z.if_o, Z.if_t', Z.if_f', Z.r_skip, Z.r_bk, Z.r_ct, Z.r_set, Z.st_o, Z.r_asg, Z.as_o, Z.as_p, Z.g_nm, Z.g_tp, Z.g_nil, Z.g_cons, Z.gc_o, Z.r_par, Z.pr_o, Z.pr_p, Z.sA_nil, Z.sA_cons, Z.r_fnM, Z.fn_n, Z.fn_d, Z.fn_r, Z.fr_l, Z.fr_f, Z.fr_i, Z.r_call, Z.cl_o, Z.r_callV, Z.cv_s, Z.in_r, Z.in_s, Z.r_fld, Z.fd_o, Z.fd_p, Z.fd_q, Z.r_setF, Z.sf_o, Z.sf_p, Z.sf_q, Z.r_meth, Z.mt_o, Z.mt_p, Z.mt_q, Z.r_make, Z.mk_o, Z.mk_p, Z.r_mt, Z.mm_o, Z.mm_p, Z.mm_q, Z.mm_r, Z.mm_s, Z.f_app, Z.f_ext, Z.ex_s, Z.f_popAt, Z.r_setIx, Z.si_o, Z.si_p, Z.si_q, Z.si_r, Z.sl_s, Z.r_augIx, Z.ai_o, Z.ai_p, Z.ai_q, Z.ai_r, Z.ai_s, Z.r_getL, Z.gl_s, Z.ip_add, Z.ip_sub, Z.r_aug, Z.ag_o, Z.ag_p, Z.ag_q, Z.r_ifE, Z.i_t, Z.i_f, Z.i_o, Z.r_andV, Z.av_o, Z.av_t, Z.av_f, Z.onB_K, Z.oBK_s, Z.r_chain, Z.ch_a, Z.ch_b, Z.ch_t, Z.ch_f, Z.ch_d, Z.ch_e, Z.r_chain3, Z.c3_a, Z.c3_b, Z.c3_t, Z.c3_f, Z.c3_d, Z.r_sl, Z.sl_a, Z.sl_b, Z.sl_c, Z.pt_n, Z.pt_s, Z.pt_o, Z.pt_i, Z.gs_d, Z.gs_r, Z.gs_s, Z.gSl_l, Z.gSl_t, Z.r_it, Z.it_l, Z.it_t, Z.r_enum, Z.en_l, Z.en_t, Z.r_rng1, Z.r_rng2, Z.r1_o, Z.r2_o, Z.r_for, Z.fo_o, Z.bd_o, Z.for_nil, Z.fl_n, Z.fl_c, Z.fl_b, Z.fl_r, Z.wc_t, Z.wc_f, Z.wb_n, Z.wb_r, Z.lc_nil, Z.lc_z, Z.lc_t, Z.lc_f, Z.lc_b, Z.lc_c, Z.r_lc, Z.lm_o, Z.lm_p, Z.gAdd_ii, Z.gAdd_ll, Z.gAdd_tt, Z.gSub_ii, Z.gMul_ii, Z.gDiv_ii, Z.gMod_ii, Z.gPow_ii, Z.gNeg_i, Z.bV_s, Z.gIx_l, Z.gIx_t, Z.gLen_l, Z.gLen_t, Z.gTup_l, Z.gTup_t, Z.gLst_l, Z.gLst_t, Z.gInt_i, Z.gInt_b, Z.gAbs_i, Z.gNot_b, Z.gZip_tt, Z.gZip_ll, Z.gAll_l, Z.gAny_l, Z.gSum_l, Z.gLRg1, Z.atI_0, Z.atI_1, Z.atI_2, Z.atI_3, Z.gS0, Z.gSj, Z.tS0, Z.tSj, Z.sS0, Z.sSj, Z.tSe, Z.r_lc2, Z.l2_o, Z.tL_l, Z.tL_t, Z.tL_i, Z.blsOf_true, Z.all_true, gEq_ii, gNe_ii, gEq_bb, gNe_bb, gLt_ii, gLe_ii, gGt_ii, gGe_ii, sub_sub_drop, HT.sIx_none, take_self, take_set, len_set, set_set, r_setL, putD, ixN, blsOf_true]
  · intro d hd acc
    obtain ⟨u, v, rfl, h0, h1, h2⟩ := h d hd
    refine ⟨[some (.d (.tuple ts)), some (.d (.int u)), some (.d (.int v))], ?_, ?_, ?_⟩ <;> simp [Z.r_var, Z.r_varK, Z.r_C, Z.r_fn, Z.r_yes, Z.rd_d, Z.rd_r, Z.rdK_l, Z.rdK_f, Z.r_on1, Z.r_on2, Z.o1_s, Z.o2_s, Z.r_outN, Z.oK_v, Z.oK_l, Z.r_m1, Z.m1_o, Z.r_m2, Z.m2_o, Z.m2_p, Z.r_mB, Z.mB_o, Z.r_nil, Z.r_cons, Z.cn_o, Z.cn_p, Z.a1_s, Z.a2_s, Z.pu_nil, Z.pu_cons, Z.puK_s, Z.r_tup, Z.r_lst, Z.tp_s, Z.lt_s, Z.okLen_if, Z.r_fz, Z.fz_d, Z.fz_f, Z.fz_s, Z.fz_r, Z.fzR_l, Z.fzR_f, Z.r_T, Z.t_o, Z.tL_b, Z.r_not, Z.nt_o, Z.r_and, Z.r_or, Z.an_t, Z.an_f, Z.or_t, Z.or_f, Z.r_seq, Z.sq_n, Z.sq_r, Z.sq_b, Z.sq_c, Z.r_drop, Z.dr_o, Z.r_ret, Z.rt_o, Z.r_retN, Z.r_if, Z.if_o, Z.if_t', Z.if_f', Z.r_skip, Z.r_bk, Z.r_ct, Z.r_set, Z.st_o, Z.r_asg, Z.as_o, Z.as_p, Z.g_nm, Z.g_tp, Z.g_nil, Z.g_cons, Z.gc_o, Z.r_par, Z.pr_o, Z.pr_p, Z.sA_nil, Z.sA_cons, Z.r_fnM, Z.fn_n, Z.fn_d, Z.fn_r, Z.fr_l, Z.fr_f, Z.fr_i, Z.r_call, Z.cl_o, Z.r_callV, Z.cv_s, Z.in_r, Z.in_s, Z.r_fld, Z.fd_o, Z.fd_p, Z.fd_q, Z.r_setF, Z.sf_o, Z.sf_p, Z.sf_q, Z.r_meth, Z.mt_o, Z.mt_p, Z.mt_q, Z.r_make, Z.mk_o, Z.mk_p, Z.r_mt, Z.mm_o, Z.mm_p, Z.mm_q, Z.mm_r, Z.mm_s, Z.f_app, Z.f_ext, Z.ex_s, Z.f_popAt, Z.r_setIx, Z.si_o, Z.si_p, Z.si_q, Z.si_r, Z.sl_s, Z.r_augIx, Z.ai_o, Z.ai_p, Z.ai_q, Z.ai_r, Z.ai_s, Z.r_getL, Z.gl_s, Z.ip_add, Z.ip_sub, Z.r_aug, Z.ag_o, Z.ag_p, Z.ag_q, Z.r_ifE, Z.i_t, Z.i_f, Z.i_o, Z.r_andV, Z.av_o, Z.av_t, Z.av_f, Z.onB_K, Z.oBK_s, Z.r_chain, Z.ch_a, Z.ch_b, Z.ch_t, Z.ch_f, Z.ch_d, Z.ch_e, Z.r_chain3, Z.c3_a, Z.c3_b, Z.c3_t, Z.c3_f, Z.c3_d, Z.r_sl, Z.sl_a, Z.sl_b, Z.sl_c, Z.pt_n, Z.pt_s, Z.pt_o, Z.pt_i, Z.gs_d, Z.gs_r, Z.gs_s, Z.gSl_l, Z.gSl_t, Z.r_it, Z.it_l, Z.it_t, Z.r_enum, Z.en_l, Z.en_t, Z.r_rng1, Z.r_rng2, Z.r1_o, Z.r2_o, Z.r_for, Z.fo_o, Z.bd_o, Z.for_nil, Z.fl_n, Z.fl_c, Z.fl_b, Z.fl_r, Z.wc_t, Z.wc_f, Z.wb_n, Z.wb_r, Z.lc_nil, Z.lc_z, Z.lc_t, Z.lc_f, Z.lc_b, Z.lc_c, Z.r_lc, Z.lm_o, Z.lm_p, Z.gAdd_ii, Z.gAdd_ll, Z.gAdd_tt, Z.gSub_ii, Z.gMul_ii, Z.gDiv_ii, Z.gMod_ii, Z.gPow_ii, Z.gNeg_i, Z.bV_s, Z.gIx_l, Z.gIx_t, Z.gLen_l, Z.gLen_t, Z.gTup_l, Z.gTup_t, Z.gLst_l, Z.gLst_t, Z.gInt_i, Z.gInt_b, Z.gAbs_i, Z.gNot_b, Z.gZip_tt, Z.gZip_ll, Z.gAll_l, Z.gAny_l, Z.gSum_l, Z.gLRg1, Z.atI_0, Z.atI_1, Z.atI_2, Z.atI_3, Z.gS0, Z.gSj, Z.tS0, Z.tSj, Z.sS0, Z.sSj, Z.tSe, Z.r_lc2, Z.l2_o, Z.tL_l, Z.tL_t, Z.tL_i, Z.blsOf_true, Z.all_true, gEq_ii, gNe_ii, gEq_bb, gNe_bb, gLt_ii, gLe_ii, gGt_ii, gGe_ii, sub_sub_drop, HT.sIx_none, take_self, take_set, len_set, set_set, r_setL, putD, ixN, is_moment_ok (show -9999 ≤ u by omega) (by omega), is_moment_ok (show -9999 ≤ v by omega) (by omega), h1]
/-! tables -/
def ltP : D → D → Bool
  | .tuple [.int a, .int b], .tuple [.int c, .int e] => decide (a < c) || (a == c && decide (b < e))
  | _, _ => false
def cpOk (n : Int) : D → Bool
  | .tuple [.int a, .int b] => decide (0 ≤ a) && decide (a < b) && decide (b < n)
  | _ => false
theorem cpOk.ex {n : Int} {d : D} (h : cpOk n d = true) : ∃ a b, d = .tuple [.int a, .int b] ∧ 0 ≤ a ∧ a < b ∧ b < n := by
  unfold cpOk at h
  split at h
  · rename_i a b
    simp at h
    exact ⟨a, b, rfl, h.1.1, h.1.2, h.2⟩
  · cases h
theorem cpl_ok {n : Int} (h0 : 0 ≤ n) (h1 : n ≤ 10) : (∀ d ∈ cpl n, cpOk n d = true) ∧ (cpl n).Pairwise (fun x y => ltP x y = true) := by
  have h : ∀ m : Fin 11, ((cpl (m.1 : Int)).all (cpOk m.1) = true) ∧ (cpl (m.1 : Int)).Pairwise (fun x y => ltP x y = true) := by decide +kernel
  have := h ⟨n.toNat, by omega⟩
  rw [show ((n.toNat : Nat) : Int) = n by omega] at this
  exact ⟨List.all_eq_true.mp this.1, this.2⟩
theorem tbl_sub : ∀ (ds : List D) (z : Int), List.Sublist (lcFold tblS z ds).2 ds
  | [], _ => List.Sublist.slnil
  | d :: ds, z => by
    have ih := tbl_sub ds (nxt z)
    show List.Sublist ((tblS z d).2.toList ++ (lcFold tblS (nxt z) ds).2) (d :: ds)
    unfold tblS
    dsimp only
    split
    · exact List.Sublist.cons₂ d ih
    · exact List.Sublist.cons d ih
theorem gLe_pp {a b c e : Int} : gOrd .LtE (.tuple [.int a, .int b]) (.tuple [.int c, .int e]) = some (if a == c then (if b == e then true else decide (b ≤ e)) else decide (a ≤ c)) := by
  show (if okEq _ _ then ordD _ _ _ else none) = _
  rw [if_pos (show okEq (.tuple [.int a, .int b]) (.tuple [.int c, .int e]) = true from rfl)]
  by_cases h1 : a = c
  · by_cases h2 : b = e
    · simp [ordD, ordDs, h1, h2, PyData.eqv, ordI]
    · simp [ordD, ordDs, h1, h2, PyData.eqv, ordI]
  · by_cases h2 : b = e
    · simp [ordD, ordDs, h1, h2, PyData.eqv, ordI]
    · simp [ordD, ordDs, h1, h2, PyData.eqv, ordI]
theorem atI_last {xs : List D} {x : D} (h : xs.getLast? = some x) : atI xs (-1) = some x := by
  have hn : 0 < xs.length := by cases xs with | nil => cases h | cons y l => simp
  unfold atI ixN
  rw [if_neg (by omega), if_pos (by omega)]
  rw [List.getLast?_eq_getElem?] at h
  simp only [Option.bind_some]
  rw [show (-1 + (xs.length : Int)).toNat = xs.length - 1 by omega]
  exact h
theorem couple_fault_ok {S : Sto} {n a b : Int} {bf : List D} (h0 : 0 ≤ a) (h1 : a < b) (h2 : b < n) (hb : ∀ y, bf.getLast? = some y → IsPr y ∧ ltP y (.tuple [.int a, .int b]) = true) :
    p_couple_fault [.d (.int n), .d (.tuple [.int a, .int b]), .d (.tuple bf)] S = .ok (.d .none) S := by
  unfold p_couple_fault
  cases q : bf.getLast? with
  | none =>
    have : bf = [] := by cases bf with | nil => rfl | cons x l => simp at q
    subst this
    simp [m_couple_fault, Z.r_var, Z.r_varK, Z.r_C, Z.r_fn, Z.r_yes, Z.rd_d, Z.rd_r, Z.rdK_l, Z.rdK_f, Z.r_on1, Z.r_on2, Z.o1_s, Z.o2_s, Z.r_outN, Z.oK_v, Z.oK_l, Z.r_m1, Z.m1_o, Z.r_m2, Z.m2_o, Z.m2_p, Z.r_mB, Z.mB_o, Z.r_nil, Z.r_cons, Z.cn_o, Z.cn_p, Z.a1_s, Z.a2_s, Z.pu_nil, Z.pu_cons, Z.puK_s, Z.r_tup, Z.r_lst, Z.tp_s, Z.lt_s, Z.okLen_if, Z.r_fz, Z.fz_d, Z.fz_f, Z.fz_s, Z.fz_r, Z.fzR_l, Z.fzR_f, Z.r_T, Z.t_o, Z.tL_b, Z.r_not, Z.nt_o, Z.r_and, Z.r_or, Z.an_t, Z.an_f, Z.or_t, Z.or_f, Z.r_seq, Z.sq_n, Z.sq_r, Z.sq_b, Z.sq_c, Z.r_drop, Z.dr_o, Z.r_ret, Z.rt_o, Z.r_retN, Z.r_if, Z.if_o, Z.if_t', Z.if_f', Z.r_skip, Z.r_bk, Z.r_ct, Z.r_set, Z.st_o, Z.r_asg, Z.as_o, Z.as_p, Z.g_nm, Z.g_tp, Z.g_nil, Z.g_cons, Z.gc_o, Z.r_par, Z.pr_o, Z.pr_p, Z.sA_nil, Z.sA_cons, Z.r_fnM, Z.fn_n, Z.fn_d, Z.fn_r, Z.fr_l, Z.fr_f, Z.fr_i, Z.r_call, Z.cl_o, Z.r_callV, Z.cv_s, Z.in_r, Z.in_s, Z.r_fld, Z.fd_o, Z.fd_p, Z.fd_q, Z.r_setF, Z.sf_o, Z.sf_p, Z.sf_q, Z.r_meth, Z.mt_o, Z.mt_p, Z.mt_q, Z.r_make, Z.mk_o, Z.mk_p, Z.r_mt, Z.mm_o, Z.mm_p, Z.mm_q, Z.mm_r, Z.mm_s, Z.f_app, Z.f_ext, Z.ex_s, Z.f_popAt, Z.r_setIx, Z.si_o, Z.si_p, Z.si_q, Z.si_r, Z.sl_s, Z.r_augIx, Z.ai_o, Z.ai_p, Z.ai_q, Z.ai_r, Z.ai_s, Z.r_getL, Z.gl_s, Z.ip_add, Z.ip_sub, Z.r_aug, Z.ag_o, Z.ag_p, Z.ag_q, Z.r_ifE, Z.i_t, Z.i_f, Z.i_o, Z.r_andV, Z.av_o, Z.av_t, Z.av_f, Z.onB_K, Z.oBK_s, Z.r_chain, Z.ch_a, Z.ch_b, Z.ch_t, Z.ch_f, Z.ch_d, Z.ch_e, Z.r_chain3, Z.c3_a, Z.c3_b, Z.c3_t, Z.c3_f, Z.c3_d, Z.r_sl, Z.sl_a, Z.sl_b, Z.sl_c, Z.pt_n, Z.pt_s, Z.pt_o, Z.pt_i, Z.gs_d, Z.gs_r, Z.gs_s, Z.gSl_l, Z.gSl_t, Z.r_it, Z.it_l, Z.it_t, Z.r_enum, Z.en_l, Z.en_t, Z.r_rng1, Z.r_rng2, Z.r1_o, Z.r2_o, Z.r_for, Z.fo_o, Z.bd_o, Z.for_nil, Z.fl_n, Z.fl_c, Z.fl_b, Z.fl_r, Z.wc_t, Z.wc_f, Z.wb_n, Z.wb_r, Z.lc_nil, Z.lc_z, Z.lc_t, Z.lc_f, Z.lc_b, Z.lc_c, Z.r_lc, Z.lm_o, Z.lm_p, Z.gAdd_ii, Z.gAdd_ll, Z.gAdd_tt, Z.gSub_ii, Z.gMul_ii, Z.gDiv_ii, Z.gMod_ii, Z.gPow_ii, Z.gNeg_i, Z.bV_s, Z.gIx_l, Z.gIx_t, Z.gLen_l, Z.gLen_t, Z.gTup_l, Z.gTup_t, Z.gLst_l, Z.gLst_t, Z.gInt_i, Z.gInt_b, Z.gAbs_i, Z.gNot_b, Z.gZip_tt, Z.gZip_ll, Z.gAll_l, Z.gAny_l, Z.gSum_l, Z.gLRg1, Z.atI_0, Z.atI_1, Z.atI_2, Z.atI_3, Z.gS0, Z.gSj, Z.tS0, Z.tSj, Z.sS0, Z.sSj, Z.tSe, Z.r_lc2, Z.l2_o, Z.tL_l, Z.tL_t, Z.tL_i, Z.blsOf_true, Z.all_true, gEq_ii, gNe_ii, gEq_bb, gNe_bb, gLt_ii, gLe_ii, gGt_ii, gGe_ii, sub_sub_drop, HT.sIx_none, take_self, take_set, len_set, set_set, r_setL, putD, ixN, h0, h1, h2]
  | some y =>
    obtain ⟨⟨c, e, rfl⟩, hlt⟩ := hb y q
    have hne : bf.isEmpty = false := by cases bf with | nil => cases q | cons x l => rfl
    have hl := atI_last q
    have hf : (if a == c then (if b == e then true else decide (b ≤ e)) else decide (a ≤ c)) = false := by
      simp [ltP] at hlt
      split
      · rename_i z
        have z := eq_of_beq z
        split
        · rename_i z2
          have z2 := eq_of_beq z2
          omega
        · exact decide_eq_false (by omega)
      · rename_i z
        have z : a ≠ c := fun q => z (by rw [q]; simp)
        exact decide_eq_false (by omega)
    have hg : gOrd .LtE (.tuple [.int a, .int b]) (.tuple [.int c, .int e]) = some false := by rw [gLe_pp, hf]
    simp [m_couple_fault, Z.r_var, Z.r_varK, Z.r_C, Z.r_fn, Z.r_yes, Z.rd_d, Z.rd_r, Z.rdK_l, Z.rdK_f, Z.r_on1, Z.r_on2, Z.o1_s, Z.o2_s, Z.r_outN, Z.oK_v, Z.oK_l, Z.r_m1, Z.m1_o, Z.r_m2, Z.m2_o, Z.m2_p, Z.r_mB, Z.mB_o, Z.r_nil, Z.r_cons, Z.cn_o, Z.cn_p, Z.a1_s, Z.a2_s, Z.pu_nil, Z.pu_cons, Z.puK_s, Z.r_tup, Z.r_lst, Z.tp_s, Z.lt_s, Z.okLen_if, Z.r_fz, Z.fz_d, Z.fz_f, Z.fz_s, Z.fz_r, Z.fzR_l, Z.fzR_f, Z.r_T, Z.t_o, Z.tL_b, Z.r_not, Z.nt_o, Z.r_and, Z.r_or, Z.an_t, Z.an_f, Z.or_t, Z.or_f, Z.r_seq, Z.sq_n, Z.sq_r, Z.sq_b, Z.sq_c, Z.r_drop, Z.dr_o, Z.r_ret, Z.rt_o, Z.r_retN, Z.r_if, Z.if_o, Z.if_t', Z.if_f', Z.r_skip, Z.r_bk, Z.r_ct, Z.r_set, Z.st_o, Z.r_asg, Z.as_o, Z.as_p, Z.g_nm, Z.g_tp, Z.g_nil, Z.g_cons, Z.gc_o, Z.r_par, Z.pr_o, Z.pr_p, Z.sA_nil, Z.sA_cons, Z.r_fnM, Z.fn_n, Z.fn_d, Z.fn_r, Z.fr_l, Z.fr_f, Z.fr_i, Z.r_call, Z.cl_o, Z.r_callV, Z.cv_s, Z.in_r, Z.in_s, Z.r_fld, Z.fd_o, Z.fd_p, Z.fd_q, Z.r_setF, Z.sf_o, Z.sf_p, Z.sf_q, Z.r_meth, Z.mt_o, Z.mt_p, Z.mt_q, Z.r_make, Z.mk_o, Z.mk_p, Z.r_mt, Z.mm_o, Z.mm_p, Z.mm_q, Z.mm_r, Z.mm_s, Z.f_app, Z.f_ext, Z.ex_s, Z.f_popAt, Z.r_setIx, Z.si_o, Z.si_p, Z.si_q, Z.si_r, Z.sl_s, Z.r_augIx, Z.ai_o, Z.ai_p, Z.ai_q, Z.ai_r, Z.ai_s, Z.r_getL, Z.gl_s, Z.ip_add, Z.ip_sub, Z.r_aug, Z.ag_o, Z.ag_p, Z.ag_q, Z.r_ifE, Z.i_t, Z.i_f, Z.i_o, Z.r_andV, Z.av_o, Z.av_t, Z.av_f, Z.onB_K, Z.oBK_s, Z.r_chain, Z.ch_a, Z.ch_b, Z.ch_t, Z.ch_f, Z.ch_d, Z.ch_e, Z.r_chain3, Z.c3_a, Z.c3_b, Z.c3_t, Z.c3_f, Z.c3_d, Z.r_sl, Z.sl_a, Z.sl_b, Z.sl_c, Z.pt_n, Z.pt_s, Z.pt_o, Z.pt_i, Z.gs_d, Z.gs_r, Z.gs_s, Z.gSl_l, Z.gSl_t, Z.r_it, Z.it_l, Z.it_t, Z.r_enum, Z.en_l, Z.en_t, Z.r_rng1, Z.r_rng2, Z.r1_o, Z.r2_o, Z.r_for, Z.fo_o, Z.bd_o, Z.for_nil, Z.fl_n, Z.fl_c, Z.fl_b, Z.fl_r, Z.wc_t, Z.wc_f, Z.wb_n, Z.wb_r, Z.lc_nil, Z.lc_z, Z.lc_t, Z.lc_f, Z.lc_b, Z.lc_c, Z.r_lc, Z.lm_o, Z.lm_p, Z.gAdd_ii, Z.gAdd_ll, Z.gAdd_tt, Z.gSub_ii, Z.gMul_ii, Z.gDiv_ii, Z.gMod_ii, Z.gPow_ii, Z.gNeg_i, Z.bV_s, Z.gIx_l, Z.gIx_t, Z.gLen_l, Z.gLen_t, Z.gTup_l, Z.gTup_t, Z.gLst_l, Z.gLst_t, Z.gInt_i, Z.gInt_b, Z.gAbs_i, Z.gNot_b, Z.gZip_tt, Z.gZip_ll, Z.gAll_l, Z.gAny_l, Z.gSum_l, Z.gLRg1, Z.atI_0, Z.atI_1, Z.atI_2, Z.atI_3, Z.gS0, Z.gSj, Z.tS0, Z.tSj, Z.sS0, Z.sSj, Z.tSe, Z.r_lc2, Z.l2_o, Z.tL_l, Z.tL_t, Z.tL_i, Z.blsOf_true, Z.all_true, gEq_ii, gNe_ii, gEq_bb, gNe_bb, gLt_ii, gLe_ii, gGt_ii, gGe_ii, sub_sub_drop, HT.sIx_none, take_self, take_set, len_set, set_set, r_setL, putD, ixN, h0, h1, h2, hne, hl, hg]
theorem getLast_take {ts : List D} {j : Nat} {y : D} (h : (ts.take j).getLast? = some y) : ∃ i, i < j ∧ ts[i]? = some y := by
  rw [List.getLast?_eq_getElem?, List.getElem?_take] at h
  split at h
  · rename_i q
    exact ⟨_, q, h⟩
  · cases h
theorem checked_table_ok {S : Sto} {n : Int} {ts : List D} (h0 : 1 ≤ n) (h1 : n ≤ 10) (hok : ∀ d ∈ ts, cpOk n d = true) (hs : ts.Pairwise (fun x y => ltP x y = true)) (hl : ts.length ≤ 1000000) :
    p_checked_table [.d (.tuple [.int n, .tuple ts])] S = .ok (.d (.tuple [.int n, .tuple ts])) S := by
  unfold p_checked_table
  have hpr : ∀ d ∈ ts, IsPr d := fun d hd => let ⟨a, b, e, _⟩ := cpOk.ex (hok d hd); ⟨a, b, e⟩
  simp [m_checked_table, Z.r_var, Z.r_varK, Z.r_C, Z.r_fn, Z.r_yes, Z.rd_d, Z.rd_r, Z.rdK_l, Z.rdK_f, Z.r_on1, Z.r_on2, Z.o1_s, Z.o2_s, Z.r_outN, Z.oK_v, Z.oK_l, Z.r_m1, Z.m1_o, Z.r_m2, Z.m2_o, Z.m2_p, Z.r_mB, Z.mB_o, Z.r_nil, Z.r_cons, Z.cn_o, Z.cn_p, Z.a1_s, Z.a2_s, Z.pu_nil, Z.pu_cons, Z.puK_s, Z.r_tup, Z.r_lst, Z.tp_s, Z.lt_s, Z.okLen_if, Z.r_fz, Z.fz_d, Z.fz_f, Z.fz_s, Z.fz_r, Z.fzR_l, Z.fzR_f, Z.r_T, Z.t_o, Z.tL_b, Z.r_not, Z.nt_o, Z.r_and, Z.r_or, Z.an_t, Z.an_f, Z.or_t, Z.or_f, Z.r_seq, Z.sq_n, Z.sq_r, Z.sq_b, Z.sq_c, Z.r_drop, Z.dr_o, Z.r_ret, Z.rt_o, Z.r_retN, Z.r_if, Z.if_o, Z.if_t', Z.if_f', Z.r_skip, Z.r_bk, Z.r_ct, Z.r_set, Z.st_o, Z.r_asg, Z.as_o, Z.as_p, Z.g_nm, Z.g_tp, Z.g_nil, Z.g_cons, Z.gc_o, Z.r_par, Z.pr_o, Z.pr_p, Z.sA_nil, Z.sA_cons, Z.r_fnM, Z.fn_n, Z.fn_d, Z.fn_r, Z.fr_l, Z.fr_f, Z.fr_i, Z.r_call, Z.cl_o, Z.r_callV, Z.cv_s, Z.in_r, Z.in_s, Z.r_fld, Z.fd_o, Z.fd_p, Z.fd_q, Z.r_setF, Z.sf_o, Z.sf_p, Z.sf_q, Z.r_meth, Z.mt_o, Z.mt_p, Z.mt_q, Z.r_make, Z.mk_o, Z.mk_p, Z.r_mt, Z.mm_o, Z.mm_p, Z.mm_q, Z.mm_r, Z.mm_s, Z.f_app, Z.f_ext, Z.ex_s, Z.f_popAt, Z.r_setIx, Z.si_o, Z.si_p, Z.si_q, Z.si_r, Z.sl_s, Z.r_augIx, Z.ai_o, Z.ai_p, Z.ai_q, Z.ai_r, Z.ai_s, Z.r_getL, Z.gl_s, Z.ip_add, Z.ip_sub, Z.r_aug, Z.ag_o, Z.ag_p, Z.ag_q, Z.r_ifE, Z.i_t, Z.i_f, Z.i_o, Z.r_andV, Z.av_o, Z.av_t, Z.av_f, Z.onB_K, Z.oBK_s, Z.r_chain, Z.ch_a, Z.ch_b, Z.ch_t, Z.ch_f, Z.ch_d, Z.ch_e, Z.r_chain3, Z.c3_a, Z.c3_b, Z.c3_t, Z.c3_f, Z.c3_d, Z.r_sl, Z.sl_a, Z.sl_b, Z.sl_c, Z.pt_n, Z.pt_s, Z.pt_o, Z.pt_i, Z.gs_d, Z.gs_r, Z.gs_s, Z.gSl_l, Z.gSl_t, Z.r_it, Z.it_l, Z.it_t, Z.r_enum, Z.en_l, Z.en_t, Z.r_rng1, Z.r_rng2, Z.r1_o, Z.r2_o, Z.r_for, Z.fo_o, Z.bd_o, Z.for_nil, Z.fl_n, Z.fl_c, Z.fl_b, Z.fl_r, Z.wc_t, Z.wc_f, Z.wb_n, Z.wb_r, Z.lc_nil, Z.lc_z, Z.lc_t, Z.lc_f, Z.lc_b, Z.lc_c, Z.r_lc, Z.lm_o, Z.lm_p, Z.gAdd_ii, Z.gAdd_ll, Z.gAdd_tt, Z.gSub_ii, Z.gMul_ii, Z.gDiv_ii, Z.gMod_ii, Z.gPow_ii, Z.gNeg_i, Z.bV_s, Z.gIx_l, Z.gIx_t, Z.gLen_l, Z.gLen_t, Z.gTup_l, Z.gTup_t, Z.gLst_l, Z.gLst_t, Z.gInt_i, Z.gInt_b, Z.gAbs_i, Z.gNot_b, Z.gZip_tt, Z.gZip_ll, Z.gAll_l, Z.gAny_l, Z.gSum_l, Z.gLRg1, Z.atI_0, Z.atI_1, Z.atI_2, Z.atI_3, Z.gS0, Z.gSj, Z.tS0, Z.tSj, Z.sS0, Z.sSj, Z.tSe, Z.r_lc2, Z.l2_o, Z.tL_l, Z.tL_t, Z.tL_i, Z.blsOf_true, Z.all_true, gEq_ii, gNe_ii, gEq_bb, gNe_bb, gLt_ii, gLe_ii, gGt_ii, gGe_ii, sub_sub_drop, HT.sIx_none, take_self, take_set, len_set, set_set, r_setL, putD, ixN, isi_b, isTy, is_integer_ok, are_pairs_ok hpr hl, k_MOST_PEOPLE, h0, h1]
  refine for_then (fun o => fnK S.length (sqK _ o)) (fun r (s : Unit) E S' => ∃ a b c, E = [some (.d (.tuple [.int n, .tuple ts])), some (.d (.int n)), some (.d (.tuple ts)), a, b, c] ∧ S = S') (fun s _ => s) () ?_ ?_ ?_
  · exact ⟨none, none, none, rfl, rfl⟩
  · rintro r s d E S' hd ⟨a, b, c, rfl, rfl⟩
    obtain ⟨j, x, rfl, hx⟩ := mem_enD hd
    obtain ⟨u, v, rfl, q0, q1, q2⟩ := cpOk.ex (hok x (List.mem_of_getElem? hx))
    have hj : j < ts.length := (List.getElem?_eq_some_iff.mp hx).1
    have hcf := couple_fault_ok (S := S) (bf := ts.take j) q0 q1 q2 fun y hy => by
      obtain ⟨i, hi, e⟩ := getLast_take hy
      have hi2 : i < ts.length := by omega
      have := (List.pairwise_iff_getElem.mp hs) i j hi2 hj hi
      rw [(List.getElem?_eq_some_iff.mp hx).2, (List.getElem?_eq_some_iff.mp e).2] at this
      exact ⟨hpr y (List.mem_of_getElem? e), this⟩
    refine ⟨[some (.d (.tuple [.int n, .tuple ts])), some (.d (.int n)), some (.d (.tuple ts)), some (.d (.int (0 + j : Nat))), some (.d (.tuple [.int u, .int v])), some (.d .none)], S, .inl ?_, ⟨_, _, _, rfl, rfl⟩⟩
    have hsx : HT.sIx ts.length ts.length (some (j : Int)) = j := by rw [HT.sIx_nat, Nat.min_eq_left (by omega)]
    simp [Z.r_var, Z.r_varK, Z.r_C, Z.r_fn, Z.r_yes, Z.rd_d, Z.rd_r, Z.rdK_l, Z.rdK_f, Z.r_on1, Z.r_on2, Z.o1_s, Z.o2_s, Z.r_outN, Z.oK_v, Z.oK_l, Z.r_m1, Z.m1_o, Z.r_m2, Z.m2_o, Z.m2_p, Z.r_mB, Z.mB_o, Z.r_nil, Z.r_cons, Z.cn_o, Z.cn_p, Z.a1_s, Z.a2_s, Z.pu_nil, Z.pu_cons, Z.puK_s, Z.r_tup, Z.r_lst, Z.tp_s, Z.lt_s, Z.okLen_if, Z.r_fz, Z.fz_d, Z.fz_f, Z.fz_s, Z.fz_r, Z.fzR_l, Z.fzR_f, Z.r_T, Z.t_o, Z.tL_b, Z.r_not, Z.nt_o, Z.r_and, Z.r_or, Z.an_t, Z.an_f, Z.or_t, Z.or_f, Z.r_seq, Z.sq_n, Z.sq_r, Z.sq_b, Z.sq_c, Z.r_drop, Z.dr_o, Z.r_ret, Z.rt_o, Z.r_retN, Z.r_if, Z.if_o, Z.if_t', Z.if_f', Z.r_skip, Z.r_bk, Z.r_ct, Z.r_set, Z.st_o, Z.r_asg, Z.as_o, Z.as_p, Z.g_nm, Z.g_tp, Z.g_nil, Z.g_cons, Z.gc_o, Z.r_par, Z.pr_o, Z.pr_p, Z.sA_nil, Z.sA_cons, Z.r_fnM, Z.fn_n, Z.fn_d, Z.fn_r, Z.fr_l, Z.fr_f, Z.fr_i, Z.r_call, Z.cl_o, Z.r_callV, Z.cv_s, Z.in_r, Z.in_s, Z.r_fld, Z.fd_o, Z.fd_p, Z.fd_q, Z.r_setF, Z.sf_o, Z.sf_p, Z.sf_q, Z.r_meth, Z.mt_o, Z.mt_p, Z.mt_q, Z.r_make, Z.mk_o, Z.mk_p, Z.r_mt, Z.mm_o, Z.mm_p, Z.mm_q, Z.mm_r, Z.mm_s, Z.f_app, Z.f_ext, Z.ex_s, Z.f_popAt, Z.r_setIx, Z.si_o, Z.si_p, Z.si_q, Z.si_r, Z.sl_s, Z.r_augIx, Z.ai_o, Z.ai_p, Z.ai_q, Z.ai_r, Z.ai_s, Z.r_getL, Z.gl_s, Z.ip_add, Z.ip_sub, Z.r_aug, Z.ag_o, Z.ag_p, Z.ag_q, Z.r_ifE, Z.i_t, Z.i_f, Z.i_o, Z.r_andV, Z.av_o, Z.av_t, Z.av_f, Z.onB_K, Z.oBK_s, Z.r_chain, Z.ch_a, Z.ch_b, Z.ch_t, Z.ch_f, Z.ch_d, Z.ch_e, Z.r_chain3, Z.c3_a, Z.c3_b, Z.c3_t, Z.c3_f, Z.c3_d, Z.r_sl, Z.sl_a, Z.sl_b, Z.sl_c, Z.pt_n, Z.pt_s, Z.pt_o, Z.pt_i, Z.gs_d, Z.gs_r, Z.gs_s, Z.gSl_l, Z.gSl_t, Z.r_it, Z.it_l, Z.it_t, Z.r_enum, Z.en_l, Z.en_t, Z.r_rng1, Z.r_rng2, Z.r1_o, Z.r2_o, Z.r_for, Z.fo_o, Z.bd_o, Z.for_nil, Z.fl_n, Z.fl_c, Z.fl_b, Z.fl_r, Z.wc_t, Z.wc_f, Z.wb_n, Z.wb_r, Z.lc_nil, Z.lc_z, Z.lc_t, Z.lc_f, Z.lc_b, Z.lc_c, Z.r_lc, Z.lm_o, Z.lm_p, Z.gAdd_ii, Z.gAdd_ll, Z.gAdd_tt, Z.gSub_ii, Z.gMul_ii, Z.gDiv_ii, Z.gMod_ii, Z.gPow_ii, Z.gNeg_i, Z.bV_s, Z.gIx_l, Z.gIx_t, Z.gLen_l, Z.gLen_t, Z.gTup_l, Z.gTup_t, Z.gLst_l, Z.gLst_t, Z.gInt_i, Z.gInt_b, Z.gAbs_i, Z.gNot_b, Z.gZip_tt, Z.gZip_ll, Z.gAll_l, Z.gAny_l, Z.gSum_l, Z.gLRg1, Z.atI_0, Z.atI_1, Z.atI_2, Z.atI_3, Z.gS0, Z.gSj, Z.tS0, Z.tSj, Z.sS0, Z.sSj, Z.tSe, Z.r_lc2, Z.l2_o, Z.tL_l, Z.tL_t, Z.tL_i, Z.blsOf_true, Z.all_true, gEq_ii, gNe_ii, gEq_bb, gNe_bb, gLt_ii, gLe_ii, gGt_ii, gGe_ii, sub_sub_drop, HT.sIx_none, take_self, take_set, len_set, set_set, r_setL, putD, ixN, hsx, hcf, gNotN, gIsN, isNon]
  · rintro E' S' ⟨a, b, c, rfl, rfl⟩
    simp [Z.r_var, Z.r_varK, Z.r_C, Z.r_fn, Z.r_yes, Z.rd_d, Z.rd_r, Z.rdK_l, Z.rdK_f, Z.r_on1, Z.r_on2, Z.o1_s, Z.o2_s, Z.r_outN, Z.oK_v, Z.oK_l, Z.r_m1, Z.m1_o, Z.r_m2, Z.m2_o, Z.m2_p, Z.r_mB, Z.mB_o, Z.r_nil, Z.r_cons, Z.cn_o, Z.cn_p, Z.a1_s, Z.a2_s, Z.pu_nil, Z.pu_cons, Z.puK_s, Z.r_tup, Z.r_lst, Z.tp_s, Z.lt_s, Z.okLen_if, Z.r_fz, Z.fz_d, Z.fz_f, Z.fz_s, Z.fz_r, Z.fzR_l, Z.fzR_f, Z.r_T, Z.t_o, Z.tL_b, Z.r_not, Z.nt_o, Z.r_and, Z.r_or, Z.an_t, Z.an_f, Z.or_t, Z.or_f, Z.r_seq, Z.sq_n, Z.sq_r, Z.sq_b, Z.sq_c, Z.r_drop, Z.dr_o, Z.r_ret, Z.rt_o, Z.r_retN, Z.r_if, Z.if_o, Z.if_t', Z.if_f', Z.r_skip, Z.r_bk, Z.r_ct, Z.r_set, Z.st_o, Z.r_asg, Z.as_o, Z.as_p, Z.g_nm, Z.g_tp, Z.g_nil, Z.g_cons, Z.gc_o, Z.r_par, Z.pr_o, Z.pr_p, Z.sA_nil, Z.sA_cons, Z.r_fnM, Z.fn_n, Z.fn_d, Z.fn_r, Z.fr_l, Z.fr_f, Z.fr_i, Z.r_call, Z.cl_o, Z.r_callV, Z.cv_s, Z.in_r, Z.in_s, Z.r_fld, Z.fd_o, Z.fd_p, Z.fd_q, Z.r_setF, Z.sf_o, Z.sf_p, Z.sf_q, Z.r_meth, Z.mt_o, Z.mt_p, Z.mt_q, Z.r_make, Z.mk_o, Z.mk_p, Z.r_mt, Z.mm_o, Z.mm_p, Z.mm_q, Z.mm_r, Z.mm_s, Z.f_app, Z.f_ext, Z.ex_s, Z.f_popAt, Z.r_setIx, Z.si_o, Z.si_p, Z.si_q, Z.si_r, Z.sl_s, Z.r_augIx, Z.ai_o, Z.ai_p, Z.ai_q, Z.ai_r, Z.ai_s, Z.r_getL, Z.gl_s, Z.ip_add, Z.ip_sub, Z.r_aug, Z.ag_o, Z.ag_p, Z.ag_q, Z.r_ifE, Z.i_t, Z.i_f, Z.i_o, Z.r_andV, Z.av_o, Z.av_t, Z.av_f, Z.onB_K, Z.oBK_s, Z.r_chain, Z.ch_a, Z.ch_b, Z.ch_t, Z.ch_f, Z.ch_d, Z.ch_e, Z.r_chain3, Z.c3_a, Z.c3_b, Z.c3_t, Z.c3_f, Z.c3_d, Z.r_sl, Z.sl_a, Z.sl_b, Z.sl_c, Z.pt_n, Z.pt_s, Z.pt_o, Z.pt_i, Z.gs_d, Z.gs_r, Z.gs_s, Z.gSl_l, Z.gSl_t, Z.r_it, Z.it_l, Z.it_t, Z.r_enum, Z.en_l, Z.en_t, Z.r_rng1, Z.r_rng2, Z.r1_o, Z.r2_o, Z.r_for, Z.fo_o, Z.bd_o, Z.for_nil, Z.fl_n, Z.fl_c, Z.fl_b, Z.fl_r, Z.wc_t, Z.wc_f, Z.wb_n, Z.wb_r, Z.lc_nil, Z.lc_z, Z.lc_t, Z.lc_f, Z.lc_b, Z.lc_c, Z.r_lc, Z.lm_o, Z.lm_p, Z.gAdd_ii, Z.gAdd_ll, Z.gAdd_tt, Z.gSub_ii, Z.gMul_ii, Z.gDiv_ii, Z.gMod_ii, Z.gPow_ii, Z.gNeg_i, Z.bV_s, Z.gIx_l, Z.gIx_t, Z.gLen_l, Z.gLen_t, Z.gTup_l, Z.gTup_t, Z.gLst_l, Z.gLst_t, Z.gInt_i, Z.gInt_b, Z.gAbs_i, Z.gNot_b, Z.gZip_tt, Z.gZip_ll, Z.gAll_l, Z.gAny_l, Z.gSum_l, Z.gLRg1, Z.atI_0, Z.atI_1, Z.atI_2, Z.atI_3, Z.gS0, Z.gSj, Z.tS0, Z.tSj, Z.sS0, Z.sSj, Z.tSe, Z.r_lc2, Z.l2_o, Z.tL_l, Z.tL_t, Z.tL_i, Z.blsOf_true, Z.all_true, gEq_ii, gNe_ii, gEq_bb, gNe_bb, gLt_ii, gLe_ii, gGt_ii, gGe_ii, sub_sub_drop, HT.sIx_none, take_self, take_set, len_set, set_set, r_setL, putD, ixN]
theorem tbl_len {seed n : Int} (h0 : 0 ≤ n) (h1 : n ≤ 10) : (tbl seed n).length ≤ 100 := Nat.le_trans (tbl_sub _ _).length_le (cpl_len h0 h1)
theorem tbl_ok {seed n : Int} (h0 : 0 ≤ n) (h1 : n ≤ 10) : (∀ d ∈ tbl seed n, cpOk n d = true) ∧ (tbl seed n).Pairwise (fun x y => ltP x y = true) :=
  ⟨fun d hd => (cpl_ok h0 h1).1 d ((tbl_sub _ _).subset hd), (cpl_ok h0 h1).2.sublist (tbl_sub _ _)⟩

theorem wts_le {k : Nat} : ∀ (ts : List D), (∀ d ∈ ts, wt d ≤ k) → wts ts ≤ k * ts.length
  | [], _ => by simp [wts]
  | t :: ts, h => by
    have h1 := h t (by simp)
    have h2 := wts_le ts fun d hd => h d (by simp [hd])
    simp [wts, Nat.mul_add]
    omega
theorem pr_lay {d : D} (h : IsPr d) : Lay 1 d ∧ wt d ≤ 3 := by
  obtain ⟨i, j, rfl⟩ := h
  refine ⟨Lay.tup fun x hx => ?_, by simp [wt, wts]⟩
  rcases List.mem_cons.mp hx with e | e
  · rw [e]; exact Lay.int i
  · rw [List.mem_singleton.mp e]; exact Lay.int j
theorem prs_lay {ts : List D} (h : ∀ d ∈ ts, IsPr d) (hl : ts.length ≤ 1000) : Lay 2 (.tuple ts) ∧ wt (.tuple ts) ≤ 3001 := by
  refine ⟨Lay.tup fun d hd => (pr_lay (h d hd)).1, ?_⟩
  have := wts_le ts fun d hd => (pr_lay (h d hd)).2
  simp [wt]
  omega
theorem int_lay {L : List D} (h : ∀ d ∈ L, ∃ i, d = .int i) (hl : L.length ≤ 1000) : Lay 2 (.tuple L) ∧ wt (.tuple L) ≤ 1001 := by
  refine ⟨Lay.tup fun d hd => let ⟨i, e⟩ := h d hd; e ▸ Lay.int i, ?_⟩
  have := wts_le (k := 1) L fun d hd => by
    obtain ⟨i, e⟩ := h d hd
    rw [e]
    simp [wt]
  simp [wt]
  omega
theorem nm_lay (z : Int) : Lay 1 (nmD z) ∧ wt (nmD z) ≤ 1 := by
  have h : ∀ d ∈ nms, d.canLay0 = true ∧ d.depth = 0 ∧ wt d = 1 := by
    have : (nms.all fun d => d.canLay0 && (d.depth == 0) && (wt d == 1)) = true := by decide +kernel
    intro d hd
    have q := List.all_eq_true.mp this d hd
    simp at q
    exact ⟨q.1.1, q.1.2, q.2⟩
  have hz := dr_rng (z := nxt (nxt z)) (m := 6) (by omega)
  have hi : (dr (nxt (nxt z)) 6).toNat < nms.length := by simp [nms]; omega
  have e : nmD z ∈ nms := by
    unfold nmD
    rw [List.getElem?_eq_getElem hi]
    exact List.getElem_mem hi
  obtain ⟨a, b, c⟩ := h _ e
  exact ⟨⟨a, by omega⟩, by omega⟩
theorem dd_lay {w nb : Int} {nm : D} (h : Lay 1 nm ∧ wt nm ≤ 1) : Lay 2 (ddD w nm nb) ∧ wt (ddD w nm nb) ≤ 3 := by
  have s : ∀ x : Str, (PyData.str x).canLay0 = true → Lay 1 (.str x) := fun x q => ⟨q, by rw [PyData.depth]; omega⟩
  have s1 := s "come" (by decide +kernel)
  have s2 := s "go" (by decide +kernel)
  have s3 := s "wait" (by decide +kernel)
  have s4 := s "shut" (by decide +kernel)
  have two : ∀ {a b : D}, Lay 1 a → Lay 1 b → Lay 2 (.tuple [a, b]) := fun ha hb => Lay.tup fun x hx => by
    rcases List.mem_cons.mp hx with e | e
    · rw [e]; exact ha
    · rw [List.mem_singleton.mp e]; exact hb
  unfold ddD
  split
  · exact ⟨two s1 h.1, by simp [wt, wts]; omega⟩
  · split
    · exact ⟨two s2 h.1, by simp [wt, wts]; omega⟩
    · split
      · exact ⟨two s3 (Lay.int _), by simp [wt, wts]⟩
      · refine ⟨Lay.tup fun x hx => ?_, by simp [wt, wts]⟩
        rw [List.mem_singleton.mp hx]
        exact s4
theorem deeds_fold : ∀ (ds : List D) (z : Int) (f : List D), (∀ d ∈ f, Lay 2 d ∧ wt d ≤ 3) → (∀ d ∈ (ds.foldl deedS (z, f)).2, Lay 2 d ∧ wt d ≤ 3) ∧ (ds.foldl deedS (z, f)).2.length = f.length + ds.length
  | [], z, f, h => ⟨h, by simp⟩
  | x :: ds, z, f, h => by
    obtain ⟨a, b⟩ := deeds_fold ds (nxt (nxt (nxt z))) (f ++ [deedD z]) fun d hd => by
      rcases List.mem_append.mp hd with q | q
      · exact h d q
      · rw [List.mem_singleton.mp q]
        exact dd_lay (nm_lay z)
    refine ⟨a, ?_⟩
    show (ds.foldl deedS (nxt (nxt (nxt z)), _)).2.length = _
    rw [b]
    simp
    omega
theorem deeds_lay {n : Nat} {z : Int} (hn : n ≤ 1000) : Lay 3 (.tuple (deeds n z)) ∧ wt (.tuple (deeds n z)) ≤ 3001 := by
  obtain ⟨a, b⟩ := deeds_fold (rgD 0 n) (z % 2147483647) [] fun d hd => by cases hd
  refine ⟨Lay.tup fun d hd => (a d hd).1, ?_⟩
  have := wts_le (k := 3) (deeds n z) fun d hd => (a d hd).2
  have hb : (deeds n z).length = n := by unfold deeds; rw [b, rgD_len]; simp
  simp [wt]
  omega
/-- the deeds as the law gathers them -/
def lcDeed (z : Int) (_ : D) : Int × Option D := (nxt (nxt (nxt z)), some (deedD z))
theorem lcDeed_eq : ∀ (ds : List D) (z : Int) (f : List D), (ds.foldl deedS (z, f)).2 = f ++ (lcFold lcDeed z ds).2
  | [], z, f => by simp [lcFold]
  | d :: ds, z, f => by
    show (ds.foldl deedS (nxt (nxt (nxt z)), f ++ [deedD z])).2 = _
    rw [lcDeed_eq ds]
    simp [lcFold, lcDeed]
def Fin (I : Vn → Sto → Prop) (r : Out Fl) : Prop := ∃ E' S', (r = .ok (.nx E') S' ∨ r = .ok (.ct E') S') ∧ I E' S'
theorem Fin.nx {I : Vn → Sto → Prop} {E : Vn} {S : Sto} (h : I E S) : Fin I (.ok (.nx E) S) := ⟨E, S, .inl rfl, h⟩
def lawI (ns : List Int) (E : Vn) (S : Sto) : Prop := ∃ a2 a3 a4 a5 a6 a7 a8 a9 b0 b1 b2 b3 o, E = [some (.s ns), some (.r 0), a2, a3, a4, a5, a6, a7, a8, a9, b0, b1, b2, b3] ∧ S[0]? = some o ∧ BagOK o
theorem sd_int {d : D} {v1 v2 : Int} (h : d ∈ [PyData.int v1, .int (100000000000000000000 + v2), .int 0, .int 2147483647, .int 2147483646]) : ∃ s, d = .int s := by
  simp at h
  rcases h with h | h | h | h | h <;> exact ⟨_, h⟩
theorem nb_int {d : D} (h : d ∈ [PyData.int 0, .int 1, .int 40, .int 200]) : ∃ s, d = .int s ∧ 0 ≤ s ∧ s ≤ 200 := by
  simp at h
  rcases h with h | h | h | h <;> exact ⟨_, h, by omega, by omega⟩
theorem st0 {S T : Sto} {z : Int} : p_Draws_state [.r S.length] (S ++ DrO z :: T) = .ok (.d (.int z)) (S ++ DrO z :: T) := Draws_state_ok (by rw [gS0 rfl]; rfl)
theorem ld1 {S T : Sto} {a : Ob} {z m : Int} (h1 : 0 ≤ z) (h2 : z < 2147483647) (hm : 0 < m) : p__law_draw [.r (S.length + 1), .d (.int m)] (S ++ a :: OwO z :: T) = .ok (.d (.int (dr (nxt z) m))) (S ++ a :: OwO (nxt z) :: T) := by
  rw [law_draw_ok (z := z) (by rw [gSj rfl]; rfl) h1 h2 hm, sSj rfl]
  rfl
theorem od2 {S T : Sto} {a b : Ob} {z : Int} (h1 : 0 ≤ z) (h2 : z < 2147483647) : p__law_own_deed [.r (S.length + 2)] (S ++ a :: b :: OwO z :: T) = .ok (.d (deedD z)) (S ++ a :: b :: OwO (nxt (nxt (nxt z))) :: T) := by
  have := own_deed_ok (S := S ++ [a, b]) (T := T) h1 h2
  rw [show (S ++ [a, b]).length = S.length + 2 by simp, List.append_assoc, List.append_assoc] at this
  exact this
theorem m4_int {d : D} {v : Int} (hv : 0 ≤ v) (h : d ∈ [PyData.int 10, .int 1, .int 7, .int (1 + v)]) : ∃ s, d = .int s ∧ 0 < s := by
  simp at h
  rcases h with h | h | h | h <;> exact ⟨_, h, by omega⟩
theorem two_ok {S : Sto} {a b : Int} : p__law_alike [.d (.list [.int a, .int b]), .d (.list [.int a, .int b])] S = .ok (.d (.bool true)) S := alike_ok rfl (by simp [wt, wts])
theorem law_true (ns : List Int) (h : ns.length ≤ 63) : p_law [.s ns] [] = .ok (.d (.bool true)) [] := by
  obtain ⟨o0, eb, hb0⟩ := bag_ok (S := []) (ns := ns)
  unfold p_law
  simp [m_law, Z.r_var, Z.r_varK, Z.r_C, Z.r_fn, Z.r_yes, Z.rd_d, Z.rd_r, Z.rdK_l, Z.rdK_f, Z.r_on1, Z.r_on2, Z.o1_s, Z.o2_s, Z.r_outN, Z.oK_v, Z.oK_l, Z.r_m1, Z.m1_o, Z.r_m2, Z.m2_o, Z.m2_p, Z.r_mB, Z.mB_o, Z.r_nil, Z.r_cons, Z.cn_o, Z.cn_p, Z.a1_s, Z.a2_s, Z.pu_nil, Z.pu_cons, Z.puK_s, Z.r_tup, Z.r_lst, Z.tp_s, Z.lt_s, Z.okLen_if, Z.r_fz, Z.fz_d, Z.fz_f, Z.fz_s, Z.fz_r, Z.fzR_l, Z.fzR_f, Z.r_T, Z.t_o, Z.tL_b, Z.r_not, Z.nt_o, Z.r_and, Z.r_or, Z.an_t, Z.an_f, Z.or_t, Z.or_f, Z.r_seq, Z.sq_n, Z.sq_r, Z.sq_b, Z.sq_c, Z.r_drop, Z.dr_o, Z.r_ret, Z.rt_o, Z.r_retN, Z.r_if, Z.if_o, Z.if_t', Z.if_f', Z.r_skip, Z.r_bk, Z.r_ct, Z.r_set, Z.st_o, Z.r_asg, Z.as_o, Z.as_p, Z.g_nm, Z.g_tp, Z.g_nil, Z.g_cons, Z.gc_o, Z.r_par, Z.pr_o, Z.pr_p, Z.sA_nil, Z.sA_cons, Z.r_fnM, Z.fn_n, Z.fn_d, Z.fn_r, Z.fr_l, Z.fr_f, Z.fr_i, Z.r_call, Z.cl_o, Z.r_callV, Z.cv_s, Z.in_r, Z.in_s, Z.r_fld, Z.fd_o, Z.fd_p, Z.fd_q, Z.r_setF, Z.sf_o, Z.sf_p, Z.sf_q, Z.r_meth, Z.mt_o, Z.mt_p, Z.mt_q, Z.r_make, Z.mk_o, Z.mk_p, Z.r_mt, Z.mm_o, Z.mm_p, Z.mm_q, Z.mm_r, Z.mm_s, Z.f_app, Z.f_ext, Z.ex_s, Z.f_popAt, Z.r_setIx, Z.si_o, Z.si_p, Z.si_q, Z.si_r, Z.sl_s, Z.r_augIx, Z.ai_o, Z.ai_p, Z.ai_q, Z.ai_r, Z.ai_s, Z.r_getL, Z.gl_s, Z.ip_add, Z.ip_sub, Z.r_aug, Z.ag_o, Z.ag_p, Z.ag_q, Z.r_ifE, Z.i_t, Z.i_f, Z.i_o, Z.r_andV, Z.av_o, Z.av_t, Z.av_f, Z.onB_K, Z.oBK_s, Z.r_chain, Z.ch_a, Z.ch_b, Z.ch_t, Z.ch_f, Z.ch_d, Z.ch_e, Z.r_chain3, Z.c3_a, Z.c3_b, Z.c3_t, Z.c3_f, Z.c3_d, Z.r_sl, Z.sl_a, Z.sl_b, Z.sl_c, Z.pt_n, Z.pt_s, Z.pt_o, Z.pt_i, Z.gs_d, Z.gs_r, Z.gs_s, Z.gSl_l, Z.gSl_t, Z.r_it, Z.it_l, Z.it_t, Z.r_enum, Z.en_l, Z.en_t, Z.r_rng1, Z.r_rng2, Z.r1_o, Z.r2_o, Z.r_for, Z.fo_o, Z.bd_o, Z.for_nil, Z.fl_n, Z.fl_c, Z.fl_b, Z.fl_r, Z.wc_t, Z.wc_f, Z.wb_n, Z.wb_r, Z.lc_nil, Z.lc_z, Z.lc_t, Z.lc_f, Z.lc_b, Z.lc_c, Z.r_lc, Z.lm_o, Z.lm_p, Z.gAdd_ii, Z.gAdd_ll, Z.gAdd_tt, Z.gSub_ii, Z.gMul_ii, Z.gDiv_ii, Z.gMod_ii, Z.gPow_ii, Z.gNeg_i, Z.bV_s, Z.gIx_l, Z.gIx_t, Z.gLen_l, Z.gLen_t, Z.gTup_l, Z.gTup_t, Z.gLst_l, Z.gLst_t, Z.gInt_i, Z.gInt_b, Z.gAbs_i, Z.gNot_b, Z.gZip_tt, Z.gZip_ll, Z.gAll_l, Z.gAny_l, Z.gSum_l, Z.gLRg1, Z.atI_0, Z.atI_1, Z.atI_2, Z.atI_3, Z.gS0, Z.gSj, Z.tS0, Z.tSj, Z.sS0, Z.sSj, Z.tSe, Z.r_lc2, Z.l2_o, Z.tL_l, Z.tL_t, Z.tL_i, Z.blsOf_true, Z.all_true, gEq_ii, gNe_ii, gEq_bb, gNe_bb, gLt_ii, gLe_ii, gGt_ii, gGe_ii, sub_sub_drop, HT.sIx_none, take_self, take_set, len_set, set_set, r_setL, putD, ixN, eb, sm62]
  refine for_then (fun o => fnK 0 (sqK _ o)) (fun r (s : Unit) E S => lawI ns E S) (fun s _ => s) () ?_ ?_ ?_
  · exact ⟨none, none, none, none, none, none, none, none, none, none, none, none, o0, rfl, rfl, hb0⟩
  · rintro r s d E S hd ⟨a2, a3, a4, a5, a6, a7, a8, a9, b0, b1, b2, b3, o, rfl, ho, hb⟩
    obtain ⟨v1, o1, e1, k1, v1a, v1b⟩ := takeO (m := 1000000) hb (by omega) (by omega)
    obtain ⟨v2, o2, e2, k2, v2a, v2b⟩ := takeO (m := 99) k1 (by omega) (by omega)
    obtain ⟨sd, o3, e3, k3, hsd⟩ := someO (ds := [PyData.int v1, .int (100000000000000000000 + v2), .int 0, .int 2147483647, .int 2147483646]) k2 (by simp) (by simp)
    obtain ⟨seed, rfl⟩ := sd_int hsd
    have f1 := e1 S 0 ho
    have f2 := e2 (S.set 0 o1) 0 (get_set ho)
    have f3 := e3 (S.set 0 o2) 0 (get_set ho)
    rw [set_set] at f2 f3
    generalize hS : S.set 0 o3 = T at f3
    have hT : T[0]? = some o3 := by rw [← hS]; exact get_set ho
    show Fin _ _
    obtain ⟨v4, o4, e4, k4, v4a, v4b⟩ := takeO (m := 1000000) k3 (by omega) (by omega)
    have z0 : 0 ≤ seed % 2147483647 := (emod_rng _ (by omega)).1
    have z1 : seed % 2147483647 < 2147483647 := (emod_rng _ (by omega)).2
    have f4 := e4 (T ++ [DrO (seed % 2147483647), OwO (seed % 2147483647)]) 0 (get_app hT)
    rw [set_app hT] at f4
    simp [Z.r_var, Z.r_varK, Z.r_C, Z.r_fn, Z.r_yes, Z.rd_d, Z.rd_r, Z.rdK_l, Z.rdK_f, Z.r_on1, Z.r_on2, Z.o1_s, Z.o2_s, Z.r_outN, Z.oK_v, Z.oK_l, Z.r_m1, Z.m1_o, Z.r_m2, Z.m2_o, Z.m2_p, Z.r_mB, Z.mB_o, Z.r_nil, Z.r_cons, Z.cn_o, Z.cn_p, Z.a1_s, Z.a2_s, Z.pu_nil, Z.pu_cons, Z.puK_s, Z.r_tup, Z.r_lst, Z.tp_s, Z.lt_s, Z.okLen_if, Z.r_fz, Z.fz_d, Z.fz_f, Z.fz_s, Z.fz_r, Z.fzR_l, Z.fzR_f, Z.r_T, Z.t_o, Z.tL_b, Z.r_not, Z.nt_o, Z.r_and, Z.r_or, Z.an_t, Z.an_f, Z.or_t, Z.or_f, Z.r_seq, Z.sq_n, Z.sq_r, Z.sq_b, Z.sq_c, Z.r_drop, Z.dr_o, Z.r_ret, Z.rt_o, Z.r_retN, Z.r_if, Z.if_o, Z.if_t', Z.if_f', Z.r_skip, Z.r_bk, Z.r_ct, Z.r_set, Z.st_o, Z.r_asg, Z.as_o, Z.as_p, Z.g_nm, Z.g_tp, Z.g_nil, Z.g_cons, Z.gc_o, Z.r_par, Z.pr_o, Z.pr_p, Z.sA_nil, Z.sA_cons, Z.r_fnM, Z.fn_n, Z.fn_d, Z.fn_r, Z.fr_l, Z.fr_f, Z.fr_i, Z.r_call, Z.cl_o, Z.r_callV, Z.cv_s, Z.in_r, Z.in_s, Z.r_fld, Z.fd_o, Z.fd_p, Z.fd_q, Z.r_setF, Z.sf_o, Z.sf_p, Z.sf_q, Z.r_meth, Z.mt_o, Z.mt_p, Z.mt_q, Z.r_make, Z.mk_o, Z.mk_p, Z.r_mt, Z.mm_o, Z.mm_p, Z.mm_q, Z.mm_r, Z.mm_s, Z.f_app, Z.f_ext, Z.ex_s, Z.f_popAt, Z.r_setIx, Z.si_o, Z.si_p, Z.si_q, Z.si_r, Z.sl_s, Z.r_augIx, Z.ai_o, Z.ai_p, Z.ai_q, Z.ai_r, Z.ai_s, Z.r_getL, Z.gl_s, Z.ip_add, Z.ip_sub, Z.r_aug, Z.ag_o, Z.ag_p, Z.ag_q, Z.r_ifE, Z.i_t, Z.i_f, Z.i_o, Z.r_andV, Z.av_o, Z.av_t, Z.av_f, Z.onB_K, Z.oBK_s, Z.r_chain, Z.ch_a, Z.ch_b, Z.ch_t, Z.ch_f, Z.ch_d, Z.ch_e, Z.r_chain3, Z.c3_a, Z.c3_b, Z.c3_t, Z.c3_f, Z.c3_d, Z.r_sl, Z.sl_a, Z.sl_b, Z.sl_c, Z.pt_n, Z.pt_s, Z.pt_o, Z.pt_i, Z.gs_d, Z.gs_r, Z.gs_s, Z.gSl_l, Z.gSl_t, Z.r_it, Z.it_l, Z.it_t, Z.r_enum, Z.en_l, Z.en_t, Z.r_rng1, Z.r_rng2, Z.r1_o, Z.r2_o, Z.r_for, Z.fo_o, Z.bd_o, Z.for_nil, Z.fl_n, Z.fl_c, Z.fl_b, Z.fl_r, Z.wc_t, Z.wc_f, Z.wb_n, Z.wb_r, Z.lc_nil, Z.lc_z, Z.lc_t, Z.lc_f, Z.lc_b, Z.lc_c, Z.r_lc, Z.lm_o, Z.lm_p, Z.gAdd_ii, Z.gAdd_ll, Z.gAdd_tt, Z.gSub_ii, Z.gMul_ii, Z.gDiv_ii, Z.gMod_ii, Z.gPow_ii, Z.gNeg_i, Z.bV_s, Z.gIx_l, Z.gIx_t, Z.gLen_l, Z.gLen_t, Z.gTup_l, Z.gTup_t, Z.gLst_l, Z.gLst_t, Z.gInt_i, Z.gInt_b, Z.gAbs_i, Z.gNot_b, Z.gZip_tt, Z.gZip_ll, Z.gAll_l, Z.gAny_l, Z.gSum_l, Z.gLRg1, Z.atI_0, Z.atI_1, Z.atI_2, Z.atI_3, Z.gS0, Z.gSj, Z.tS0, Z.tSj, Z.sS0, Z.sSj, Z.tSe, Z.r_lc2, Z.l2_o, Z.tL_l, Z.tL_t, Z.tL_i, Z.blsOf_true, Z.all_true, gEq_ii, gNe_ii, gEq_bb, gNe_bb, gLt_ii, gLe_ii, gGt_ii, gGe_ii, sub_sub_drop, HT.sIx_none, take_self, take_set, len_set, set_set, r_setL, putD, ixN, f1, f2, f3, f4, cpow6, cpow20, mk0, law_begun_ok, mtS, st0]
    generalize hz : seed % 2147483647 = z at z0 z1
    have hU : (T.set 0 o4)[0]? = some o4 := get_set hT
    rw [show T.length = (T.set 0 o4).length from len_set.symm]
    generalize T.set 0 o4 = U at hU
    refine for_thenP (Fin _) (fun o => sqK _ o) (fun r z E S' => ∃ a b, E = [some (.s ns), some (.r 0), some (.d d), some (.d (.int seed)), some (.r U.length), some (.r (U.length + 1)), a, b, a8, a9, b0, b1, b2, b3] ∧ S' = U ++ [DrO z, OwO z] ∧ 0 ≤ z ∧ z < 2147483647) (fun z _ => nxt z) z ?_ ?_ ?_
    · exact ⟨_, _, rfl, rfl, z0, z1⟩
    · rintro r z d2 E S' hd2 ⟨a, b, rfl, rfl, z0, z1⟩
      obtain ⟨m, rfl, hm⟩ := m4_int v4a hd2
      refine ⟨[some (.s ns), some (.r 0), some (.d d), some (.d (.int seed)), some (.r U.length), some (.r (U.length + 1)), some (.d (.int m)), some (.d (.int (dr (nxt z) m))), a8, a9, b0, b1, b2, b3], U ++ [DrO (nxt z), OwO (nxt z)], .inl ?_, _, _, rfl, rfl, nxt_lo _, nxt_hi _⟩
      simp [Z.r_var, Z.r_varK, Z.r_C, Z.r_fn, Z.r_yes, Z.rd_d, Z.rd_r, Z.rdK_l, Z.rdK_f, Z.r_on1, Z.r_on2, Z.o1_s, Z.o2_s, Z.r_outN, Z.oK_v, Z.oK_l, Z.r_m1, Z.m1_o, Z.r_m2, Z.m2_o, Z.m2_p, Z.r_mB, Z.mB_o, Z.r_nil, Z.r_cons, Z.cn_o, Z.cn_p, Z.a1_s, Z.a2_s, Z.pu_nil, Z.pu_cons, Z.puK_s, Z.r_tup, Z.r_lst, Z.tp_s, Z.lt_s, Z.okLen_if, Z.r_fz, Z.fz_d, Z.fz_f, Z.fz_s, Z.fz_r, Z.fzR_l, Z.fzR_f, Z.r_T, Z.t_o, Z.tL_b, Z.r_not, Z.nt_o, Z.r_and, Z.r_or, Z.an_t, Z.an_f, Z.or_t, Z.or_f, Z.r_seq, Z.sq_n, Z.sq_r, Z.sq_b, Z.sq_c, Z.r_drop, Z.dr_o, Z.r_ret, Z.rt_o, Z.r_retN, Z.r_if, Z.if_o, Z.if_t', Z.if_f', Z.r_skip, Z.r_bk, Z.r_ct, Z.r_set, Z.st_o, Z.r_asg, Z.as_o, Z.as_p, Z.g_nm, Z.g_tp, Z.g_nil, Z.g_cons, Z.gc_o, Z.r_par, Z.pr_o, Z.pr_p, Z.sA_nil, Z.sA_cons, Z.r_fnM, Z.fn_n, Z.fn_d, Z.fn_r, Z.fr_l, Z.fr_f, Z.fr_i, Z.r_call, Z.cl_o, Z.r_callV, Z.cv_s, Z.in_r, Z.in_s, Z.r_fld, Z.fd_o, Z.fd_p, Z.fd_q, Z.r_setF, Z.sf_o, Z.sf_p, Z.sf_q, Z.r_meth, Z.mt_o, Z.mt_p, Z.mt_q, Z.r_make, Z.mk_o, Z.mk_p, Z.r_mt, Z.mm_o, Z.mm_p, Z.mm_q, Z.mm_r, Z.mm_s, Z.f_app, Z.f_ext, Z.ex_s, Z.f_popAt, Z.r_setIx, Z.si_o, Z.si_p, Z.si_q, Z.si_r, Z.sl_s, Z.r_augIx, Z.ai_o, Z.ai_p, Z.ai_q, Z.ai_r, Z.ai_s, Z.r_getL, Z.gl_s, Z.ip_add, Z.ip_sub, Z.r_aug, Z.ag_o, Z.ag_p, Z.ag_q, Z.r_ifE, Z.i_t, Z.i_f, Z.i_o, Z.r_andV, Z.av_o, Z.av_t, Z.av_f, Z.onB_K, Z.oBK_s, Z.r_chain, Z.ch_a, Z.ch_b, Z.ch_t, Z.ch_f, Z.ch_d, Z.ch_e, Z.r_chain3, Z.c3_a, Z.c3_b, Z.c3_t, Z.c3_f, Z.c3_d, Z.r_sl, Z.sl_a, Z.sl_b, Z.sl_c, Z.pt_n, Z.pt_s, Z.pt_o, Z.pt_i, Z.gs_d, Z.gs_r, Z.gs_s, Z.gSl_l, Z.gSl_t, Z.r_it, Z.it_l, Z.it_t, Z.r_enum, Z.en_l, Z.en_t, Z.r_rng1, Z.r_rng2, Z.r1_o, Z.r2_o, Z.r_for, Z.fo_o, Z.bd_o, Z.for_nil, Z.fl_n, Z.fl_c, Z.fl_b, Z.fl_r, Z.wc_t, Z.wc_f, Z.wb_n, Z.wb_r, Z.lc_nil, Z.lc_z, Z.lc_t, Z.lc_f, Z.lc_b, Z.lc_c, Z.r_lc, Z.lm_o, Z.lm_p, Z.gAdd_ii, Z.gAdd_ll, Z.gAdd_tt, Z.gSub_ii, Z.gMul_ii, Z.gDiv_ii, Z.gMod_ii, Z.gPow_ii, Z.gNeg_i, Z.bV_s, Z.gIx_l, Z.gIx_t, Z.gLen_l, Z.gLen_t, Z.gTup_l, Z.gTup_t, Z.gLst_l, Z.gLst_t, Z.gInt_i, Z.gInt_b, Z.gAbs_i, Z.gNot_b, Z.gZip_tt, Z.gZip_ll, Z.gAll_l, Z.gAny_l, Z.gSum_l, Z.gLRg1, Z.atI_0, Z.atI_1, Z.atI_2, Z.atI_3, Z.gS0, Z.gSj, Z.tS0, Z.tSj, Z.sS0, Z.sSj, Z.tSe, Z.r_lc2, Z.l2_o, Z.tL_l, Z.tL_t, Z.tL_i, Z.blsOf_true, Z.all_true, gEq_ii, gNe_ii, gEq_bb, gNe_bb, gLt_ii, gLe_ii, gGt_ii, gGe_ii, sub_sub_drop, HT.sIx_none, take_self, take_set, len_set, set_set, r_setL, putD, ixN, ld1 z0 z1 hm, dt0 z0 z1 hm, mtT, mtS, st0, two_ok]
    · rintro E S' ⟨a, b, rfl, rfl, z0, z1⟩
      generalize hq : List.foldl (fun z _ => nxt z) z [PyData.int 10, .int 1, .int 7, .int (1 + v4)] = y at z0 z1
      obtain ⟨v5, o5, e5, k5, v5a, v5b⟩ := takeO (m := 10) k4 (by omega) (by omega)
      obtain ⟨v6, o6, e6, k6, v6a, v6b⟩ := takeO (m := 999) k5 (by omega) (by omega)
      obtain ⟨v7, o7, e7, k7, v7a, v7b⟩ := takeO (m := 101) k6 (by omega) (by omega)
      obtain ⟨v8, o8, e8, k8, v8a, v8b⟩ := takeO (m := 13) k7 (by omega) (by omega)
      obtain ⟨nd, o9, e9, k9, hnd⟩ := someO (ds := [PyData.int 0, .int 1, .int 40, .int 200]) k8 (by simp) (by simp)
      obtain ⟨nb, rfl, nb0, nb1⟩ := nb_int hnd
      have f5 := e5 (U ++ [DrO y, OwO y]) 0 (get_app hU)
      rw [set_app hU] at f5
      have f6 := e6 (U.set 0 o5 ++ [DrO y, OwO y]) 0 (get_app (get_set hU))
      rw [set_app (get_set hU), set_set] at f6
      have f7 := e7 (U.set 0 o6 ++ [DrO y, OwO y]) 0 (get_app (get_set hU))
      rw [set_app (get_set hU), set_set] at f7
      have f8 := e8 (U.set 0 o7 ++ [DrO y, OwO y]) 0 (get_app (get_set hU))
      rw [set_app (get_set hU), set_set] at f8
      have f9 := e9 (U.set 0 o8 ++ [DrO y, OwO y, OwO ((seed + 4) % 2147483647)]) 0 (get_app (get_set hU))
      rw [set_app (get_set hU), set_set] at f9
      obtain ⟨L, r1, r2, fr⟩ := drawn_rank_ok (S := U.set 0 o8 ++ [DrO y, OwO y]) (seed := seed + 2) v7a (by omega)
      obtain ⟨L', r1', _, fr'⟩ := own_rank_ok (S := U.set 0 o8 ++ [DrO y, OwO y]) (seed := seed + 2) v7a (by omega)
      have hL := RK.uniq r1' r1
      subst hL
      have hvp : ∀ d ∈ spans (1 + v5).toNat (1 + v6) seed, SpOk (100 + (1 + v6)) d := spans_ok (by omega)
      have hvl : (spans (1 + v5).toNat (1 + v6) seed).length = (1 + v5).toNat := spans_len (by omega)
      have hv := prs_lay (fun d hd => (hvp d hd).pr) (by omega)
      have cv : ∀ S, p_checked_visits [.d (.int (1 + v5)), .d (.tuple (spans (1 + v5).toNat (1 + v6) seed))] S = .ok (.d (.tuple (spans (1 + v5).toNat (1 + v6) seed))) S := fun S => by
        have := checked_visits_ok (S := S) (m := 100 + (1 + v6)) (by omega) hvp (by omega)
        rw [hvl, show (((1 + v5).toNat : Nat) : Int) = 1 + v5 by omega] at this
        exact this
      obtain ⟨t1, t2⟩ := tbl_ok (seed := seed + 1) (n := 1 + v5) (by omega) (by omega)
      have t3 := tbl_len (seed := seed + 1) (n := 1 + v5) (by omega) (by omega)
      have ht := prs_lay (fun d hd => let ⟨a, b, e, _⟩ := cpOk.ex (t1 d hd); (⟨a, b, e⟩ : IsPr d)) (Nat.le_trans t3 (by decide))
      have htl : Lay 3 (.tuple [.int (1 + v5), .tuple (tbl (seed + 1) (1 + v5))]) := Lay.tup fun x hx => by
        rcases List.mem_cons.mp hx with e | e
        · rw [e]; exact Lay.int _
        · rw [List.mem_singleton.mp e]; exact ht.1
      have htw : wt (.tuple [.int (1 + v5), .tuple (tbl (seed + 1) (1 + v5))]) ≤ 999990 := by
        have := ht.2
        simp [wt, wts] at *
        omega
      have hsp : ∀ d ∈ spans v8.toNat 30 (seed + 3), SpOk (100 + 30) d := spans_ok (by omega)
      have hsl : (spans v8.toNat 30 (seed + 3)).length = v8.toNat := spans_len (by omega)
      have hs := prs_lay (fun d hd => (hsp d hd).pr) (by omega)
      have hr := int_lay r2.i2 (by have := r2.l; simp at this; exact this)
      have hrs : Lay 3 (.list [.tuple L', .tuple (spans v8.toNat 30 (seed + 3))]) := Lay.lst fun x hx => by
        rcases List.mem_cons.mp hx with e | e
        · rw [e]; exact hr.1
        · rw [List.mem_singleton.mp e]; exact hs.1
      have hrw : wt (.list [.tuple L', .tuple (spans v8.toNat 30 (seed + 3))]) ≤ 999990 := by
        have := hs.2
        have := hr.2
        simp [wt, wts] at *
        omega
      have hdd := deeds_lay (n := nb.toNat) (z := seed + 4) (by omega)
      simp [Z.r_var, Z.r_varK, Z.r_C, Z.r_fn, Z.r_yes, Z.rd_d, Z.rd_r, Z.rdK_l, Z.rdK_f, Z.r_on1, Z.r_on2, Z.o1_s, Z.o2_s, Z.r_outN, Z.oK_v, Z.oK_l, Z.r_m1, Z.m1_o, Z.r_m2, Z.m2_o, Z.m2_p, Z.r_mB, Z.mB_o, Z.r_nil, Z.r_cons, Z.cn_o, Z.cn_p, Z.a1_s, Z.a2_s, Z.pu_nil, Z.pu_cons, Z.puK_s, Z.r_tup, Z.r_lst, Z.tp_s, Z.lt_s, Z.okLen_if, Z.r_fz, Z.fz_d, Z.fz_f, Z.fz_s, Z.fz_r, Z.fzR_l, Z.fzR_f, Z.r_T, Z.t_o, Z.tL_b, Z.r_not, Z.nt_o, Z.r_and, Z.r_or, Z.an_t, Z.an_f, Z.or_t, Z.or_f, Z.r_seq, Z.sq_n, Z.sq_r, Z.sq_b, Z.sq_c, Z.r_drop, Z.dr_o, Z.r_ret, Z.rt_o, Z.r_retN, Z.r_if, Z.if_o, Z.if_t', Z.if_f', Z.r_skip, Z.r_bk, Z.r_ct, Z.r_set, Z.st_o, Z.r_asg, Z.as_o, Z.as_p, Z.g_nm, Z.g_tp, Z.g_nil, Z.g_cons, Z.gc_o, Z.r_par, Z.pr_o, Z.pr_p, Z.sA_nil, Z.sA_cons, Z.r_fnM, Z.fn_n, Z.fn_d, Z.fn_r, Z.fr_l, Z.fr_f, Z.fr_i, Z.r_call, Z.cl_o, Z.r_callV, Z.cv_s, Z.in_r, Z.in_s, Z.r_fld, Z.fd_o, Z.fd_p, Z.fd_q, Z.r_setF, Z.sf_o, Z.sf_p, Z.sf_q, Z.r_meth, Z.mt_o, Z.mt_p, Z.mt_q, Z.r_make, Z.mk_o, Z.mk_p, Z.r_mt, Z.mm_o, Z.mm_p, Z.mm_q, Z.mm_r, Z.mm_s, Z.f_app, Z.f_ext, Z.ex_s, Z.f_popAt, Z.r_setIx, Z.si_o, Z.si_p, Z.si_q, Z.si_r, Z.sl_s, Z.r_augIx, Z.ai_o, Z.ai_p, Z.ai_q, Z.ai_r, Z.ai_s, Z.r_getL, Z.gl_s, Z.ip_add, Z.ip_sub, Z.r_aug, Z.ag_o, Z.ag_p, Z.ag_q, Z.r_ifE, Z.i_t, Z.i_f, Z.i_o, Z.r_andV, Z.av_o, Z.av_t, Z.av_f, Z.onB_K, Z.oBK_s, Z.r_chain, Z.ch_a, Z.ch_b, Z.ch_t, Z.ch_f, Z.ch_d, Z.ch_e, Z.r_chain3, Z.c3_a, Z.c3_b, Z.c3_t, Z.c3_f, Z.c3_d, Z.r_sl, Z.sl_a, Z.sl_b, Z.sl_c, Z.pt_n, Z.pt_s, Z.pt_o, Z.pt_i, Z.gs_d, Z.gs_r, Z.gs_s, Z.gSl_l, Z.gSl_t, Z.r_it, Z.it_l, Z.it_t, Z.r_enum, Z.en_l, Z.en_t, Z.r_rng1, Z.r_rng2, Z.r1_o, Z.r2_o, Z.r_for, Z.fo_o, Z.bd_o, Z.for_nil, Z.fl_n, Z.fl_c, Z.fl_b, Z.fl_r, Z.wc_t, Z.wc_f, Z.wb_n, Z.wb_r, Z.lc_nil, Z.lc_z, Z.lc_t, Z.lc_f, Z.lc_b, Z.lc_c, Z.r_lc, Z.lm_o, Z.lm_p, Z.gAdd_ii, Z.gAdd_ll, Z.gAdd_tt, Z.gSub_ii, Z.gMul_ii, Z.gDiv_ii, Z.gMod_ii, Z.gPow_ii, Z.gNeg_i, Z.bV_s, Z.gIx_l, Z.gIx_t, Z.gLen_l, Z.gLen_t, Z.gTup_l, Z.gTup_t, Z.gLst_l, Z.gLst_t, Z.gInt_i, Z.gInt_b, Z.gAbs_i, Z.gNot_b, Z.gZip_tt, Z.gZip_ll, Z.gAll_l, Z.gAny_l, Z.gSum_l, Z.gLRg1, Z.atI_0, Z.atI_1, Z.atI_2, Z.atI_3, Z.gS0, Z.gSj, Z.tS0, Z.tSj, Z.sS0, Z.sSj, Z.tSe, Z.r_lc2, Z.l2_o, Z.tL_l, Z.tL_t, Z.tL_i, Z.blsOf_true, Z.all_true, gEq_ii, gNe_ii, gEq_bb, gNe_bb, gLt_ii, gLe_ii, gGt_ii, gGe_ii, sub_sub_drop, HT.sIx_none, take_self, take_set, len_set, set_set, r_setL, putD, ixN, f5, f6, f7, f8, f9, fr, fr', drawn_visits_ok (many := 1 + v5) (lg := 1 + v6) (by omega) (by omega) (by omega), own_visits_ok (many := 1 + v5) (lg := 1 + v6) (by omega) (by omega) (by omega),
        alike_ok hv.1.c (by have := hv.2; omega), cv, gNe_same (hv.1.sh (by decide)), drawn_table_ok (n := 1 + v5) (by omega) (by omega), own_table_ok (n := 1 + v5) (by omega) (by omega), alike_ok htl.c htw,
        checked_table_ok (n := 1 + v5) (by omega) (by omega) t1 t2 (Nat.le_trans t3 (by decide)), gNe_same (htl.sh (by decide)), drawn_shifts_ok v8a (by omega), own_shifts_ok v8a (by omega), alike_ok hrs.c hrw,
        are_shifts_ok (by decide) hsp (by omega), gNotN, gIsN, law_begun_ok, deeds_of_ok nb0 (by omega), wipeE, sm62 (show -1000000000 ≤ nb by omega) (by omega)]
      have w0 : 0 ≤ (seed + 4) % 2147483647 := (emod_rng _ (by omega)).1
      have w1 : (seed + 4) % 2147483647 < 2147483647 := (emod_rng _ (by omega)).2
      have hfd : (lcFold lcDeed ((seed + 4) % 2147483647) (rgD 0 nb.toNat)).2 = deeds nb.toNat (seed + 4) := by
        have := lcDeed_eq (rgD 0 nb.toNat) ((seed + 4) % 2147483647) []
        rw [List.nil_append] at this
        exact this.symm
      rw [lc_eq (fun z : Int => 0 ≤ z ∧ z < 2147483647) (fun z => U.set 0 o9 ++ [DrO y, OwO y, OwO z]) lcDeed ((seed + 4) % 2147483647)]
      · simp [Z.r_var, Z.r_varK, Z.r_C, Z.r_fn, Z.r_yes, Z.rd_d, Z.rd_r, Z.rdK_l, Z.rdK_f, Z.r_on1, Z.r_on2, Z.o1_s, Z.o2_s, Z.r_outN, Z.oK_v, Z.oK_l, Z.r_m1, Z.m1_o, Z.r_m2, Z.m2_o, Z.m2_p, Z.r_mB, Z.mB_o, Z.r_nil, Z.r_cons, Z.cn_o, Z.cn_p, Z.a1_s, Z.a2_s, Z.pu_nil, Z.pu_cons, Z.puK_s, Z.r_tup, Z.r_lst, Z.tp_s, Z.lt_s, Z.okLen_if, Z.r_fz, Z.fz_d, Z.fz_f, Z.fz_s, Z.fz_r, Z.fzR_l, Z.fzR_f, Z.r_T, Z.t_o, Z.tL_b, Z.r_not, Z.nt_o, Z.r_and, Z.r_or, Z.an_t, Z.an_f, Z.or_t, Z.or_f, Z.r_seq, Z.sq_n, Z.sq_r, Z.sq_b, Z.sq_c, Z.r_drop, Z.dr_o, Z.r_ret, Z.rt_o, Z.r_retN, Z.r_if, Z.if_o, Z.if_t', Z.if_f', Z.r_skip, Z.r_bk, Z.r_ct, Z.r_set, Z.st_o, Z.r_asg, Z.as_o, Z.as_p, Z.g_nm, Z.g_tp, Z.g_nil, Z.g_cons, Z.gc_o, Z.r_par, Z.pr_o, Z.pr_p, Z.sA_nil, Z.sA_cons, Z.r_fnM, Z.fn_n, Z.fn_d, Z.fn_r, Z.fr_l, Z.fr_f, Z.fr_i, Z.r_call, Z.cl_o, Z.r_callV, Z.cv_s, Z.in_r, Z.in_s, Z.r_fld, Z.fd_o, Z.fd_p, Z.fd_q, Z.r_setF, Z.sf_o, Z.sf_p, Z.sf_q, Z.r_meth, Z.mt_o, Z.mt_p, Z.mt_q, Z.r_make, Z.mk_o, Z.mk_p, Z.r_mt, Z.mm_o, Z.mm_p, Z.mm_q, Z.mm_r, Z.mm_s, Z.f_app, Z.f_ext, Z.ex_s, Z.f_popAt, Z.r_setIx, Z.si_o, Z.si_p, Z.si_q, Z.si_r, Z.sl_s, Z.r_augIx, Z.ai_o, Z.ai_p, Z.ai_q, Z.ai_r, Z.ai_s, Z.r_getL, Z.gl_s, Z.ip_add, Z.ip_sub, Z.r_aug, Z.ag_o, Z.ag_p, Z.ag_q, Z.r_ifE, Z.i_t, Z.i_f, Z.i_o, Z.r_andV, Z.av_o, Z.av_t, Z.av_f, Z.onB_K, Z.oBK_s, Z.r_chain, Z.ch_a, Z.ch_b, Z.ch_t, Z.ch_f, Z.ch_d, Z.ch_e, Z.r_chain3, Z.c3_a, Z.c3_b, Z.c3_t, Z.c3_f, Z.c3_d, Z.r_sl, Z.sl_a, Z.sl_b, Z.sl_c, Z.pt_n, Z.pt_s, Z.pt_o, Z.pt_i, Z.gs_d, Z.gs_r, Z.gs_s, Z.gSl_l, Z.gSl_t, Z.r_it, Z.it_l, Z.it_t, Z.r_enum, Z.en_l, Z.en_t, Z.r_rng1, Z.r_rng2, Z.r1_o, Z.r2_o, Z.r_for, Z.fo_o, Z.bd_o, Z.for_nil, Z.fl_n, Z.fl_c, Z.fl_b, Z.fl_r, Z.wc_t, Z.wc_f, Z.wb_n, Z.wb_r, Z.lc_nil, Z.lc_z, Z.lc_t, Z.lc_f, Z.lc_b, Z.lc_c, Z.r_lc, Z.lm_o, Z.lm_p, Z.gAdd_ii, Z.gAdd_ll, Z.gAdd_tt, Z.gSub_ii, Z.gMul_ii, Z.gDiv_ii, Z.gMod_ii, Z.gPow_ii, Z.gNeg_i, Z.bV_s, Z.gIx_l, Z.gIx_t, Z.gLen_l, Z.gLen_t, Z.gTup_l, Z.gTup_t, Z.gLst_l, Z.gLst_t, Z.gInt_i, Z.gInt_b, Z.gAbs_i, Z.gNot_b, Z.gZip_tt, Z.gZip_ll, Z.gAll_l, Z.gAny_l, Z.gSum_l, Z.gLRg1, Z.atI_0, Z.atI_1, Z.atI_2, Z.atI_3, Z.gS0, Z.gSj, Z.tS0, Z.tSj, Z.sS0, Z.sSj, Z.tSe, Z.r_lc2, Z.l2_o, Z.tL_l, Z.tL_t, Z.tL_i, Z.blsOf_true, Z.all_true, gEq_ii, gNe_ii, gEq_bb, gNe_bb, gLt_ii, gLe_ii, gGt_ii, gGe_ii, sub_sub_drop, HT.sIx_none, take_self, take_set, len_set, set_set, r_setL, putD, ixN, hfd, alike_ok hdd.1.c (by have := hdd.2; omega)]
        exact Fin.nx ⟨_, _, _, _, _, _, _, _, _, _, _, _, o9, rfl, get_app (get_set hU), k9⟩
      · simp
      · intro s _; simp
      · exact ⟨w0, w1⟩
      · rw [rgD_len]; omega
      · rintro z d3 hd3 ⟨z0, z1⟩
        refine ⟨⟨nxt_lo _, nxt_hi _⟩, ⟨fun acc => ⟨[some (.s ns), some (.r 0), some (.d d), some (.d (.int seed)), some (.r U.length), some (.r (U.length + 2)), some (.d (.int (1 + v5))), some (.d (.int nb)), some (.d (.int (1 + v6))), some (.d (.tuple (spans (1 + v5).toNat (1 + v6) seed))),
          some (.d (.tuple [.int (1 + v5), .tuple (tbl (seed + 1) (1 + v5))])), some (.d (.int v7)), some (.d (.int v8)), some (.d d3)], U.set 0 o9 ++ [DrO y, OwO y, OwO z], U.set 0 o9 ++ [DrO y, OwO y, OwO z], ?_, ?_, ?_, ?_⟩⟩⟩
        · simp [Z.r_var, Z.r_varK, Z.r_C, Z.r_fn, Z.r_yes, Z.rd_d, Z.rd_r, Z.rdK_l, Z.rdK_f, Z.r_on1, Z.r_on2, Z.o1_s, Z.o2_s, Z.r_outN, Z.oK_v, Z.oK_l, Z.r_m1, Z.m1_o, Z.r_m2, Z.m2_o, Z.m2_p, Z.r_mB, Z.mB_o, Z.r_nil, Z.r_cons, Z.cn_o, Z.cn_p, Z.a1_s, Z.a2_s, Z.pu_nil, Z.pu_cons, Z.puK_s, Z.r_tup, Z.r_lst, Z.tp_s, Z.lt_s, Z.okLen_if, Z.r_fz, Z.fz_d, Z.fz_f, Z.fz_s, Z.fz_r, Z.fzR_l, Z.fzR_f, Z.r_T, Z.t_o, Z.tL_b, Z.r_not, Z.nt_o, Z.r_and, Z.r_or, Z.an_t, Z.an_f, Z.or_t, Z.or_f, Z.r_seq, Z.sq_n, Z.sq_r, Z.sq_b, Z.sq_c, Z.r_drop, Z.dr_o, Z.r_ret, Z.rt_o, Z.r_retN, Z.r_if, Z.if_o, Z.if_t', Z.if_f', Z.r_skip, Z.r_bk, Z.r_ct, Z.r_set, Z.st_o, Z.r_asg, Z.as_o, Z.as_p, Z.g_nm, Z.g_tp, Z.g_nil, Z.g_cons, Z.gc_o, Z.r_par, Z.pr_o, Z.pr_p, Z.sA_nil, Z.sA_cons, Z.r_fnM, Z.fn_n, Z.fn_d, Z.fn_r, Z.fr_l, Z.fr_f, Z.fr_i, Z.r_call, Z.cl_o, Z.r_callV, Z.cv_s, Z.in_r, Z.in_s, Z.r_fld, Z.fd_o, Z.fd_p, Z.fd_q, Z.r_setF, Z.sf_o, Z.sf_p, Z.sf_q, Z.r_meth, Z.mt_o, Z.mt_p, Z.mt_q, Z.r_make, Z.mk_o, Z.mk_p, Z.r_mt, Z.mm_o, Z.mm_p, Z.mm_q, Z.mm_r, Z.mm_s, Z.f_app, Z.f_ext, Z.ex_s, Z.f_popAt, Z.r_setIx, Z.si_o, Z.si_p, Z.si_q, Z.si_r, Z.sl_s, Z.r_augIx, Z.ai_o, Z.ai_p, Z.ai_q, Z.ai_r, Z.ai_s, Z.r_getL, Z.gl_s, Z.ip_add, Z.ip_sub, Z.r_aug, Z.ag_o, Z.ag_p, Z.ag_q, Z.r_ifE, Z.i_t, Z.i_f, Z.i_o, Z.r_andV, Z.av_o, Z.av_t, Z.av_f, Z.onB_K, Z.oBK_s, Z.r_chain, Z.ch_a, Z.ch_b, Z.ch_t, Z.ch_f, Z.ch_d, Z.ch_e, Z.r_chain3, Z.c3_a, Z.c3_b, Z.c3_t, Z.c3_f, Z.c3_d, Z.r_sl, Z.sl_a, Z.sl_b, Z.sl_c, Z.pt_n, Z.pt_s, Z.pt_o, Z.pt_i, Z.gs_d, Z.gs_r, Z.gs_s, Z.gSl_l, Z.gSl_t, Z.r_it, Z.it_l, Z.it_t, Z.r_enum, Z.en_l, Z.en_t, Z.r_rng1, Z.r_rng2, Z.r1_o, Z.r2_o, Z.r_for, Z.fo_o, Z.bd_o, Z.for_nil, Z.fl_n, Z.fl_c, Z.fl_b, Z.fl_r, Z.wc_t, Z.wc_f, Z.wb_n, Z.wb_r, Z.lc_nil, Z.lc_z, Z.lc_t, Z.lc_f, Z.lc_b, Z.lc_c, Z.r_lc, Z.lm_o, Z.lm_p, Z.gAdd_ii, Z.gAdd_ll, Z.gAdd_tt, Z.gSub_ii, Z.gMul_ii, Z.gDiv_ii, Z.gMod_ii, Z.gPow_ii, Z.gNeg_i, Z.bV_s, Z.gIx_l, Z.gIx_t, Z.gLen_l, Z.gLen_t, Z.gTup_l, Z.gTup_t, Z.gLst_l, Z.gLst_t, Z.gInt_i, Z.gInt_b, Z.gAbs_i, Z.gNot_b, Z.gZip_tt, Z.gZip_ll, Z.gAll_l, Z.gAny_l, Z.gSum_l, Z.gLRg1, Z.atI_0, Z.atI_1, Z.atI_2, Z.atI_3, Z.gS0, Z.gSj, Z.tS0, Z.tSj, Z.sS0, Z.sSj, Z.tSe, Z.r_lc2, Z.l2_o, Z.tL_l, Z.tL_t, Z.tL_i, Z.blsOf_true, Z.all_true, gEq_ii, gNe_ii, gEq_bb, gNe_bb, gLt_ii, gLe_ii, gGt_ii, gGe_ii, sub_sub_drop, HT.sIx_none, take_self, take_set, len_set, set_set, r_setL, putD, ixN]
        · simp [Z.r_var, Z.r_varK, Z.r_C, Z.r_fn, Z.r_yes, Z.rd_d, Z.rd_r, Z.rdK_l, Z.rdK_f, Z.r_on1, Z.r_on2, Z.o1_s, Z.o2_s, Z.r_outN, Z.oK_v, Z.oK_l, Z.r_m1, Z.m1_o, Z.r_m2, Z.m2_o, Z.m2_p, Z.r_mB, Z.mB_o, Z.r_nil, Z.r_cons, Z.cn_o, Z.cn_p, Z.a1_s, Z.a2_s, Z.pu_nil, Z.pu_cons, Z.puK_s, Z.r_tup, Z.r_lst, Z.tp_s, Z.lt_s, Z.okLen_if, Z.r_fz, Z.fz_d, Z.fz_f, Z.fz_s, Z.fz_r, Z.fzR_l, Z.fzR_f, Z.r_T, Z.t_o, Z.tL_b, Z.r_not, Z.nt_o, Z.r_and, Z.r_or, Z.an_t, Z.an_f, Z.or_t, Z.or_f, Z.r_seq, Z.sq_n, Z.sq_r, Z.sq_b, Z.sq_c, Z.r_drop, Z.dr_o, Z.r_ret, Z.rt_o, Z.r_retN, Z.r_if, Z.if_o, Z.if_t', Z.if_f', Z.r_skip, Z.r_bk, Z.r_ct, Z.r_set, Z.st_o, Z.r_asg, Z.as_o, Z.as_p, Z.g_nm, Z.g_tp, Z.g_nil, Z.g_cons, Z.gc_o, Z.r_par, Z.pr_o, Z.pr_p, Z.sA_nil, Z.sA_cons, Z.r_fnM, Z.fn_n, Z.fn_d, Z.fn_r, Z.fr_l, Z.fr_f, Z.fr_i, Z.r_call, Z.cl_o, Z.r_callV, Z.cv_s, Z.in_r, Z.in_s, Z.r_fld, Z.fd_o, Z.fd_p, Z.fd_q, Z.r_setF, Z.sf_o, Z.sf_p, Z.sf_q, Z.r_meth, Z.mt_o, Z.mt_p, Z.mt_q, Z.r_make, Z.mk_o, Z.mk_p, Z.r_mt, Z.mm_o, Z.mm_p, Z.mm_q, Z.mm_r, Z.mm_s, Z.f_app, Z.f_ext, Z.ex_s, Z.f_popAt, Z.r_setIx, Z.si_o, Z.si_p, Z.si_q, Z.si_r, Z.sl_s, Z.r_augIx, Z.ai_o, Z.ai_p, Z.ai_q, Z.ai_r, Z.ai_s, Z.r_getL, Z.gl_s, Z.ip_add, Z.ip_sub, Z.r_aug, Z.ag_o, Z.ag_p, Z.ag_q, Z.r_ifE, Z.i_t, Z.i_f, Z.i_o, Z.r_andV, Z.av_o, Z.av_t, Z.av_f, Z.onB_K, Z.oBK_s, Z.r_chain, Z.ch_a, Z.ch_b, Z.ch_t, Z.ch_f, Z.ch_d, Z.ch_e, Z.r_chain3, Z.c3_a, Z.c3_b, Z.c3_t, Z.c3_f, Z.c3_d, Z.r_sl, Z.sl_a, Z.sl_b, Z.sl_c, Z.pt_n, Z.pt_s, Z.pt_o, Z.pt_i, Z.gs_d, Z.gs_r, Z.gs_s, Z.gSl_l, Z.gSl_t, Z.r_it, Z.it_l, Z.it_t, Z.r_enum, Z.en_l, Z.en_t, Z.r_rng1, Z.r_rng2, Z.r1_o, Z.r2_o, Z.r_for, Z.fo_o, Z.bd_o, Z.for_nil, Z.fl_n, Z.fl_c, Z.fl_b, Z.fl_r, Z.wc_t, Z.wc_f, Z.wb_n, Z.wb_r, Z.lc_nil, Z.lc_z, Z.lc_t, Z.lc_f, Z.lc_b, Z.lc_c, Z.r_lc, Z.lm_o, Z.lm_p, Z.gAdd_ii, Z.gAdd_ll, Z.gAdd_tt, Z.gSub_ii, Z.gMul_ii, Z.gDiv_ii, Z.gMod_ii, Z.gPow_ii, Z.gNeg_i, Z.bV_s, Z.gIx_l, Z.gIx_t, Z.gLen_l, Z.gLen_t, Z.gTup_l, Z.gTup_t, Z.gLst_l, Z.gLst_t, Z.gInt_i, Z.gInt_b, Z.gAbs_i, Z.gNot_b, Z.gZip_tt, Z.gZip_ll, Z.gAll_l, Z.gAny_l, Z.gSum_l, Z.gLRg1, Z.atI_0, Z.atI_1, Z.atI_2, Z.atI_3, Z.gS0, Z.gSj, Z.tS0, Z.tSj, Z.sS0, Z.sSj, Z.tSe, Z.r_lc2, Z.l2_o, Z.tL_l, Z.tL_t, Z.tL_i, Z.blsOf_true, Z.all_true, gEq_ii, gNe_ii, gEq_bb, gNe_bb, gLt_ii, gLe_ii, gGt_ii, gGe_ii, sub_sub_drop, HT.sIx_none, take_self, take_set, len_set, set_set, r_setL, putD, ixN, lcDeed]
        · intro y2 hy2
          cases hy2
          have q := od2 (S := U.set 0 o9) (a := DrO y) (b := OwO y) (T := [.lst acc]) z0 z1
          rw [len_set] at q
          simp [Z.r_var, Z.r_varK, Z.r_C, Z.r_fn, Z.r_yes, Z.rd_d, Z.rd_r, Z.rdK_l, Z.rdK_f, Z.r_on1, Z.r_on2, Z.o1_s, Z.o2_s, Z.r_outN, Z.oK_v, Z.oK_l, Z.r_m1, Z.m1_o, Z.r_m2, Z.m2_o, Z.m2_p, Z.r_mB, Z.mB_o, Z.r_nil, Z.r_cons, Z.cn_o, Z.cn_p, Z.a1_s, Z.a2_s, Z.pu_nil, Z.pu_cons, Z.puK_s, Z.r_tup, Z.r_lst, Z.tp_s, Z.lt_s, Z.okLen_if, Z.r_fz, Z.fz_d, Z.fz_f, Z.fz_s, Z.fz_r, Z.fzR_l, Z.fzR_f, Z.r_T, Z.t_o, Z.tL_b, Z.r_not, Z.nt_o, Z.r_and, Z.r_or, Z.an_t, Z.an_f, Z.or_t, Z.or_f, Z.r_seq, Z.sq_n, Z.sq_r, Z.sq_b, Z.sq_c, Z.r_drop, Z.dr_o, Z.r_ret, Z.rt_o, Z.r_retN, Z.r_if, Z.if_o, Z.if_t', Z.if_f', Z.r_skip, Z.r_bk, Z.r_ct, Z.r_set, Z.st_o, Z.r_asg, Z.as_o, Z.as_p, Z.g_nm, Z.g_tp, Z.g_nil, Z.g_cons, Z.gc_o, Z.r_par, Z.pr_o, Z.pr_p, Z.sA_nil, Z.sA_cons, Z.r_fnM, Z.fn_n, Z.fn_d, Z.fn_r, Z.fr_l, Z.fr_f, Z.fr_i, Z.r_call, Z.cl_o, Z.r_callV, Z.cv_s, Z.in_r, Z.in_s, Z.r_fld, Z.fd_o, Z.fd_p, Z.fd_q, Z.r_setF, Z.sf_o, Z.sf_p, Z.sf_q, Z.r_meth, Z.mt_o, Z.mt_p, Z.mt_q, Z.r_make, Z.mk_o, Z.mk_p, Z.r_mt, Z.mm_o, Z.mm_p, Z.mm_q, Z.mm_r, Z.mm_s, Z.f_app, Z.f_ext, Z.ex_s, Z.f_popAt, Z.r_setIx, Z.si_o, Z.si_p, Z.si_q, Z.si_r, Z.sl_s, Z.r_augIx, Z.ai_o, Z.ai_p, Z.ai_q, Z.ai_r, Z.ai_s, Z.r_getL, Z.gl_s, Z.ip_add, Z.ip_sub, Z.r_aug, Z.ag_o, Z.ag_p, Z.ag_q, Z.r_ifE, Z.i_t, Z.i_f, Z.i_o, Z.r_andV, Z.av_o, Z.av_t, Z.av_f, Z.onB_K, Z.oBK_s, Z.r_chain, Z.ch_a, Z.ch_b, Z.ch_t, Z.ch_f, Z.ch_d, Z.ch_e, Z.r_chain3, Z.c3_a, Z.c3_b, Z.c3_t, Z.c3_f, Z.c3_d, Z.r_sl, Z.sl_a, Z.sl_b, Z.sl_c, Z.pt_n, Z.pt_s, Z.pt_o, Z.pt_i, Z.gs_d, Z.gs_r, Z.gs_s, Z.gSl_l, Z.gSl_t, Z.r_it, Z.it_l, Z.it_t, Z.r_enum, Z.en_l, Z.en_t, Z.r_rng1, Z.r_rng2, Z.r1_o, Z.r2_o, Z.r_for, Z.fo_o, Z.bd_o, Z.for_nil, Z.fl_n, Z.fl_c, Z.fl_b, Z.fl_r, Z.wc_t, Z.wc_f, Z.wb_n, Z.wb_r, Z.lc_nil, Z.lc_z, Z.lc_t, Z.lc_f, Z.lc_b, Z.lc_c, Z.r_lc, Z.lm_o, Z.lm_p, Z.gAdd_ii, Z.gAdd_ll, Z.gAdd_tt, Z.gSub_ii, Z.gMul_ii, Z.gDiv_ii, Z.gMod_ii, Z.gPow_ii, Z.gNeg_i, Z.bV_s, Z.gIx_l, Z.gIx_t, Z.gLen_l, Z.gLen_t, Z.gTup_l, Z.gTup_t, Z.gLst_l, Z.gLst_t, Z.gInt_i, Z.gInt_b, Z.gAbs_i, Z.gNot_b, Z.gZip_tt, Z.gZip_ll, Z.gAll_l, Z.gAny_l, Z.gSum_l, Z.gLRg1, Z.atI_0, Z.atI_1, Z.atI_2, Z.atI_3, Z.gS0, Z.gSj, Z.tS0, Z.tSj, Z.sS0, Z.sSj, Z.tSe, Z.r_lc2, Z.l2_o, Z.tL_l, Z.tL_t, Z.tL_i, Z.blsOf_true, Z.all_true, gEq_ii, gNe_ii, gEq_bb, gNe_bb, gLt_ii, gLe_ii, gGt_ii, gGe_ii, sub_sub_drop, HT.sIx_none, take_self, take_set, len_set, set_set, r_setL, putD, ixN, q, lcDeed]
        · intro q; cases q
  · rintro E S ⟨a2, a3, a4, a5, a6, a7, a8, a9, b0, b1, b2, b3, o, rfl, ho, hb⟩
    simp [Z.r_var, Z.r_varK, Z.r_C, Z.r_fn, Z.r_yes, Z.rd_d, Z.rd_r, Z.rdK_l, Z.rdK_f, Z.r_on1, Z.r_on2, Z.o1_s, Z.o2_s, Z.r_outN, Z.oK_v, Z.oK_l, Z.r_m1, Z.m1_o, Z.r_m2, Z.m2_o, Z.m2_p, Z.r_mB, Z.mB_o, Z.r_nil, Z.r_cons, Z.cn_o, Z.cn_p, Z.a1_s, Z.a2_s, Z.pu_nil, Z.pu_cons, Z.puK_s, Z.r_tup, Z.r_lst, Z.tp_s, Z.lt_s, Z.okLen_if, Z.r_fz, Z.fz_d, Z.fz_f, Z.fz_s, Z.fz_r, Z.fzR_l, Z.fzR_f, Z.r_T, Z.t_o, Z.tL_b, Z.r_not, Z.nt_o, Z.r_and, Z.r_or, Z.an_t, Z.an_f, Z.or_t, Z.or_f, Z.r_seq, Z.sq_n, Z.sq_r, Z.sq_b, Z.sq_c, Z.r_drop, Z.dr_o, Z.r_ret, Z.rt_o, Z.r_retN, Z.r_if, Z.if_o, Z.if_t', Z.if_f', Z.r_skip, Z.r_bk, Z.r_ct, Z.r_set, Z.st_o, Z.r_asg, Z.as_o, Z.as_p, Z.g_nm, Z.g_tp, Z.g_nil, Z.g_cons, Z.gc_o, Z.r_par, Z.pr_o, Z.pr_p, Z.sA_nil, Z.sA_cons, Z.r_fnM, Z.fn_n, Z.fn_d, Z.fn_r, Z.fr_l, Z.fr_f, Z.fr_i, Z.r_call, Z.cl_o, Z.r_callV, Z.cv_s, Z.in_r, Z.in_s, Z.r_fld, Z.fd_o, Z.fd_p, Z.fd_q, Z.r_setF, Z.sf_o, Z.sf_p, Z.sf_q, Z.r_meth, Z.mt_o, Z.mt_p, Z.mt_q, Z.r_make, Z.mk_o, Z.mk_p, Z.r_mt, Z.mm_o, Z.mm_p, Z.mm_q, Z.mm_r, Z.mm_s, Z.f_app, Z.f_ext, Z.ex_s, Z.f_popAt, Z.r_setIx, Z.si_o, Z.si_p, Z.si_q, Z.si_r, Z.sl_s, Z.r_augIx, Z.ai_o, Z.ai_p, Z.ai_q, Z.ai_r, Z.ai_s, Z.r_getL, Z.gl_s, Z.ip_add, Z.ip_sub, Z.r_aug, Z.ag_o, Z.ag_p, Z.ag_q, Z.r_ifE, Z.i_t, Z.i_f, Z.i_o, Z.r_andV, Z.av_o, Z.av_t, Z.av_f, Z.onB_K, Z.oBK_s, Z.r_chain, Z.ch_a, Z.ch_b, Z.ch_t, Z.ch_f, Z.ch_d, Z.ch_e, Z.r_chain3, Z.c3_a, Z.c3_b, Z.c3_t, Z.c3_f, Z.c3_d, Z.r_sl, Z.sl_a, Z.sl_b, Z.sl_c, Z.pt_n, Z.pt_s, Z.pt_o, Z.pt_i, Z.gs_d, Z.gs_r, Z.gs_s, Z.gSl_l, Z.gSl_t, Z.r_it, Z.it_l, Z.it_t, Z.r_enum, Z.en_l, Z.en_t, Z.r_rng1, Z.r_rng2, Z.r1_o, Z.r2_o, Z.r_for, Z.fo_o, Z.bd_o, Z.for_nil, Z.fl_n, Z.fl_c, Z.fl_b, Z.fl_r, Z.wc_t, Z.wc_f, Z.wb_n, Z.wb_r, Z.lc_nil, Z.lc_z, Z.lc_t, Z.lc_f, Z.lc_b, Z.lc_c, Z.r_lc, Z.lm_o, Z.lm_p, Z.gAdd_ii, Z.gAdd_ll, Z.gAdd_tt, Z.gSub_ii, Z.gMul_ii, Z.gDiv_ii, Z.gMod_ii, Z.gPow_ii, Z.gNeg_i, Z.bV_s, Z.gIx_l, Z.gIx_t, Z.gLen_l, Z.gLen_t, Z.gTup_l, Z.gTup_t, Z.gLst_l, Z.gLst_t, Z.gInt_i, Z.gInt_b, Z.gAbs_i, Z.gNot_b, Z.gZip_tt, Z.gZip_ll, Z.gAll_l, Z.gAny_l, Z.gSum_l, Z.gLRg1, Z.atI_0, Z.atI_1, Z.atI_2, Z.atI_3, Z.gS0, Z.gSj, Z.tS0, Z.tSj, Z.sS0, Z.sSj, Z.tSe, Z.r_lc2, Z.l2_o, Z.tL_l, Z.tL_t, Z.tL_i, Z.blsOf_true, Z.all_true, gEq_ii, gNe_ii, gEq_bb, gNe_bb, gLt_ii, gLe_ii, gGt_ii, gGe_ii, sub_sub_drop, HT.sIx_none, take_self, take_set, len_set, set_set, r_setL, putD, ixN]

end Lw
open PySem PySem.W PyProof.Rows in
set_option maxRecDepth 100000 in
set_option maxHeartbeats 0 in
theorem PySem.Challenge.cw_porterbook_k12_worlds_of_houses_drawn_by_holds : PySem.Challenge.rw_porterbook_k12_worlds_of_houses_drawn_by.Holds := by
  w_on; o_law; k_head; (case hw => w_witness2)
  k_fill
  refine Z.walk_M (l := PySem.Challenge.rw_porterbook_k12_worlds_of_houses_drawn_by) (k := 8) rfl rfl ⟨rfl, by decide, by decide⟩ (fun w h Y => PySem.W.kIn_of Y) ?F
  case F =>
    intro w mg fa h KX G hmg
    refine' Lw.all_mk KX G hmg Lw.law_true ?aC_Draws ?a__law_bag ?l__law_bag ?c__law_bag ?k__law_bag ?a__law_take ?l__law_take ?c__law_take ?k__law_take ?a__law_some ?l__law_some ?c__law_some ?k__law_some ?a__law_begun ?l__law_begun ?c__law_begun ?k__law_begun ?a_Draws___init__ ?i_Draws___init__ ?l_Draws___init__ ?c_Draws___init__ ?k_Draws___init__ ?a_Draws_state ?i_Draws_state ?l_Draws_state ?c_Draws_state ?k_Draws_state ?a__law_draw ?l__law_draw ?c__law_draw ?k__law_draw ?a__law_alike ?l__law_alike ?c__law_alike ?k__law_alike ?a_Draws_take ?i_Draws_take ?l_Draws_take ?c_Draws_take ?k_Draws_take ?a_drawn_spans ?l_drawn_spans ?c_drawn_spans ?k_drawn_spans ?a_drawn_visits ?l_drawn_visits ?c_drawn_visits ?k_drawn_visits ?a__law_own_visits ?l__law_own_visits ?c__law_own_visits ?k__law_own_visits ?a_are_all ?l_are_all ?c_are_all ?k_are_all ?a_is_integer ?l_is_integer ?c_is_integer ?k_is_integer ?a_are_integers ?l_are_integers ?c_are_integers ?k_are_integers ?a_is_pair ?l_is_pair ?c_is_pair ?k_is_pair ?a_are_pairs ?l_are_pairs ?c_are_pairs ?k_are_pairs ?a_is_moment ?l_is_moment ?c_is_moment ?k_is_moment ?a_checked_visits ?l_checked_visits ?c_checked_visits ?k_checked_visits ?a_all_couples ?l_all_couples ?c_all_couples ?k_all_couples ?a_drawn_table ?l_drawn_table ?c_drawn_table ?k_drawn_table ?a__law_couples ?l__law_couples ?c__law_couples ?k__law_couples ?a__law_own_table ?l__law_own_table ?c__law_own_table ?k__law_own_table ?a_couple_fault ?l_couple_fault ?c_couple_fault ?k_couple_fault ?a_checked_table ?l_checked_table ?c_checked_table ?k_checked_table ?a__law_own_shifts ?l__law_own_shifts ?c__law_own_shifts ?k__law_own_shifts ?a__law_own_rank ?l__law_own_rank ?c__law_own_rank ?k__law_own_rank ?a_drawn_shifts ?l_drawn_shifts ?c_drawn_shifts ?k_drawn_shifts ?a_drawn_rank ?l_drawn_rank ?c_drawn_rank ?k_drawn_rank ?a_are_shifts ?l_are_shifts ?c_are_shifts ?k_are_shifts ?a__law_own_deed ?l__law_own_deed ?c__law_own_deed ?k__law_own_deed ?a_deed_by ?l_deed_by ?c_deed_by ?k_deed_by ?a_deeds_of ?l_deeds_of ?c_deeds_of ?k_deeds_of ?a_law ?l_law ?c_law ?k_law ?pg_Draws ?hd_Draws ?po_Draws ?sa_Draws ?mk_Draws ?kc_Draws ?A_Draws_its_state ?N_abs ?N_all ?N_bool ?N_enumerate ?N_int ?N_isinstance ?N_len ?N_list ?N_range ?N_str ?N_tuple ?N_zip ?C_CUT ?C_FACTOR ?C_MODULUS ?C_MOST_MOMENT ?C_MOST_PEOPLE ?C_MOST_SHIFTS ?C_NAMES ?L_NAMES_0 ?Z_NAMES_0 ?E_NAMES_0_0 ?E_NAMES_0_1 ?E_NAMES_0_2 ?E_NAMES_0_3 ?E_NAMES_0_4 ?E_NAMES_0_5 ?S_NAMES_0 ?C_SUMMAND
    (case aC_Draws => k_is)
    (case a__law_bag => k_is)
    (case l__law_bag => k_is)
    (case c__law_bag => k_is)
    (case k__law_bag => k_is)
    (case a__law_take => k_is)
    (case l__law_take => k_is)
    (case c__law_take => k_is)
    (case k__law_take => k_is)
    (case a__law_some => k_is)
    (case l__law_some => k_is)
    (case c__law_some => k_is)
    (case k__law_some => k_is)
    (case a__law_begun => k_is)
    (case l__law_begun => k_is)
    (case c__law_begun => k_is)
    (case k__law_begun => k_is)
    (case a_Draws___init__ => k_is)
    (case i_Draws___init__ => k_is)
    (case l_Draws___init__ => k_is)
    (case c_Draws___init__ => k_is)
    (case k_Draws___init__ => k_is)
    (case a_Draws_state => k_is)
    (case i_Draws_state => k_is)
    (case l_Draws_state => k_is)
    (case c_Draws_state => k_is)
    (case k_Draws_state => k_is)
    (case a__law_draw => k_is)
    (case l__law_draw => k_is)
    (case c__law_draw => k_is)
    (case k__law_draw => k_is)
    (case a__law_alike => k_is)
    (case l__law_alike => k_is)
    (case c__law_alike => k_is)
    (case k__law_alike => k_is)
    (case a_Draws_take => k_is)
    (case i_Draws_take => k_is)
    (case l_Draws_take => k_is)
    (case c_Draws_take => k_is)
    (case k_Draws_take => k_is)
    (case a_drawn_spans => k_is)
    (case l_drawn_spans => k_is)
    (case c_drawn_spans => k_is)
    (case k_drawn_spans => k_is)
    (case a_drawn_visits => k_is)
    (case l_drawn_visits => k_is)
    (case c_drawn_visits => k_is)
    (case k_drawn_visits => k_is)
    (case a__law_own_visits => k_is)
    (case l__law_own_visits => k_is)
    (case c__law_own_visits => k_is)
    (case k__law_own_visits => k_is)
    (case a_are_all => k_is)
    (case l_are_all => k_is)
    (case c_are_all => k_is)
    (case k_are_all => k_is)
    (case a_is_integer => k_is)
    (case l_is_integer => k_is)
    (case c_is_integer => k_is)
    (case k_is_integer => k_is)
    (case a_are_integers => k_is)
    (case l_are_integers => k_is)
    (case c_are_integers => k_is)
    (case k_are_integers => k_is)
    (case a_is_pair => k_is)
    (case l_is_pair => k_is)
    (case c_is_pair => k_is)
    (case k_is_pair => k_is)
    (case a_are_pairs => k_is)
    (case l_are_pairs => k_is)
    (case c_are_pairs => k_is)
    (case k_are_pairs => k_is)
    (case a_is_moment => k_is)
    (case l_is_moment => k_is)
    (case c_is_moment => k_is)
    (case k_is_moment => k_is)
    (case a_checked_visits => k_is)
    (case l_checked_visits => k_is)
    (case c_checked_visits => k_is)
    (case k_checked_visits => k_is)
    (case a_all_couples => k_is)
    (case l_all_couples => k_is)
    (case c_all_couples => k_is)
    (case k_all_couples => k_is)
    (case a_drawn_table => k_is)
    (case l_drawn_table => k_is)
    (case c_drawn_table => k_is)
    (case k_drawn_table => k_is)
    (case a__law_couples => k_is)
    (case l__law_couples => k_is)
    (case c__law_couples => k_is)
    (case k__law_couples => k_is)
    (case a__law_own_table => k_is)
    (case l__law_own_table => k_is)
    (case c__law_own_table => k_is)
    (case k__law_own_table => k_is)
    (case a_couple_fault => k_is)
    (case l_couple_fault => k_is)
    (case c_couple_fault => k_is)
    (case k_couple_fault => k_is)
    (case a_checked_table => k_is)
    (case l_checked_table => k_is)
    (case c_checked_table => k_is)
    (case k_checked_table => k_is)
    (case a__law_own_shifts => k_is)
    (case l__law_own_shifts => k_is)
    (case c__law_own_shifts => k_is)
    (case k__law_own_shifts => k_is)
    (case a__law_own_rank => k_is)
    (case l__law_own_rank => k_is)
    (case c__law_own_rank => k_is)
    (case k__law_own_rank => k_is)
    (case a_drawn_shifts => k_is)
    (case l_drawn_shifts => k_is)
    (case c_drawn_shifts => k_is)
    (case k_drawn_shifts => k_is)
    (case a_drawn_rank => k_is)
    (case l_drawn_rank => k_is)
    (case c_drawn_rank => k_is)
    (case k_drawn_rank => k_is)
    (case a_are_shifts => k_is)
    (case l_are_shifts => k_is)
    (case c_are_shifts => k_is)
    (case k_are_shifts => k_is)
    (case a__law_own_deed => k_is)
    (case l__law_own_deed => k_is)
    (case c__law_own_deed => k_is)
    (case k__law_own_deed => k_is)
    (case a_deed_by => k_is)
    (case l_deed_by => k_is)
    (case c_deed_by => k_is)
    (case k_deed_by => k_is)
    (case a_deeds_of => k_is)
    (case l_deeds_of => k_is)
    (case c_deeds_of => k_is)
    (case k_deeds_of => k_is)
    (case a_law => k_is)
    (case l_law => k_is)
    (case c_law => k_is)
    (case k_law => k_is)
    (case pg_Draws => k_is)
    (case hd_Draws => k_is)
    (case po_Draws => k_is)
    (case sa_Draws => k_is)
    (case mk_Draws => k_is)
    (case kc_Draws => k_is)
    (case A_Draws_its_state => k_is)
    (case N_abs => k_is)
    (case N_all => k_is)
    (case N_bool => k_is)
    (case N_enumerate => k_is)
    (case N_int => k_is)
    (case N_isinstance => k_is)
    (case N_len => k_is)
    (case N_list => k_is)
    (case N_range => k_is)
    (case N_str => k_is)
    (case N_tuple => k_is)
    (case N_zip => k_is)
    (case C_CUT => k_is)
    (case C_FACTOR => k_is)
    (case C_MODULUS => k_is)
    (case C_MOST_MOMENT => k_is)
    (case C_MOST_PEOPLE => k_is)
    (case C_MOST_SHIFTS => k_is)
    (case C_NAMES => k_is)
    (case L_NAMES_0 => k_is)
    (case Z_NAMES_0 => decide +kernel)
    (case E_NAMES_0_0 => rfl)
    (case E_NAMES_0_1 => rfl)
    (case E_NAMES_0_2 => rfl)
    (case E_NAMES_0_3 => rfl)
    (case E_NAMES_0_4 => rfl)
    (case E_NAMES_0_5 => rfl)
    (case S_NAMES_0 => decide +kernel)
    (case C_SUMMAND => k_is)
