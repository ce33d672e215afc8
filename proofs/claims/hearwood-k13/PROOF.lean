import PyProof.Rows.All
import Wide.All
import OpenK.AllK
import Wide.FinOn
import HandS.Words
import HandS.WordsExc
import HandS.Conv
import HandS.SortRule
import HandS.SortInts
import HandS.TupLen
import HandS.List
import HandS.Dict
import HandS.Comp
import HandS.Iter
import HandS.IsInst
import HandS.Text
import HandS.Evl
import HandS.HeadHook1
import HandS.ExcOwn
import HandS.DictTup
import HandS.Walk
import HandS.Head0
import HandS.Head1
import HandS.Head2
import HandS.HeadEnd
import HandS.Deep
import KE.DatumOrd
import PyProof.DictMoreH
import HandS.ExcIs
import HandS.HotCalls
import HandS.SetFor
import HandS.NoneIn
import PyProof.StrLawsChain
import HandS.TupLe
import HandS.More
import PyProof.StrOps2
import KE.DataMinKey
import HandS.SortKw
import PySem.Challenge.RW_hearwood_k13_whole_by_all_families
set_option Elab.async false
set_option linter.all false
set_option maxRecDepth 100000
set_option maxHeartbeats 4000000
/-! a small logic over the hand layer: data that stands still, data of one's own -/
namespace HG
open PySem PyProof.Rows L2 Evl
/-! ### heaps -/
def none0 : Hp := fun _ => none
def join (F M : Hp) : Hp := fun a => match M a with
  | some o => some o
  | none => F a
def one (p : Addr) (o : HO) : Hp := upd none0 p o
theorem one_some {p a : Addr} {o u : HO} (h : one p o a = some u) : a = p ∧ u = o := by
  unfold one upd at h
  by_cases e : a = p
  · rw [if_pos e] at h; exact ⟨e, (Option.some.inj h).symm⟩
  · rw [if_neg e] at h; cases h
theorem one_ex {p : Addr} {o : HO} {H : Hp} (h : H p = some o) : Ex (one p o) H := fun a u e => by
  obtain ⟨rfl, rfl⟩ := one_some e; exact h
theorem one_at {p : Addr} {o : HO} : one p o p = some o := upd_same
theorem join_r {F M : Hp} {a : Addr} {o : HO} (h : M a = some o) : join F M a = some o := by unfold join; rw [h]
theorem join_l {F M : Hp} {a : Addr} (h : M a = none) : join F M a = F a := by unfold join; rw [h]
theorem join_some {F M : Hp} {a : Addr} {o : HO} (h : join F M a = some o) : M a = some o ∨ (M a = none ∧ F a = some o) := by
  cases e : M a with
  | some u => rw [join_r e] at h; exact .inl h
  | none => rw [join_l e] at h; exact .inr ⟨rfl, h⟩
theorem join_ex {F M H : Hp} (h1 : Ex F H) (h2 : Ex M H) : Ex (join F M) H := fun a o h => by
  rcases join_some h with h | h
  · exact h2 _ _ h
  · exact h1 _ _ h.2
theorem ex_join_r {F M : Hp} : Ex M (join F M) := fun a o h => join_r h
theorem ex_join_l {F M : Hp} (h : ∀ a o, M a = some o → F a = none) : Ex F (join F M) := fun a o e => by
  have : M a = none := by
    cases q : M a with
    | none => rfl
    | some u => rw [h a u q] at e; cases e
  rw [join_l this]; exact e
theorem ex_none0 {H : Hp} : Ex none0 H := fun _ _ h => nomatch h
theorem none_of {H : Hp} {a : Addr} (h : ∀ o, H a = some o → False) : H a = none := by
  cases e : H a with
  | none => rfl
  | some o => exact (h o e).elim
/-! ### what data is -/
structure Ty (α : Type) where
  R : α → Hp → V → Prop
  up : ∀ {x F F' v}, R x F v → Ex F F' → R x F' v
/-- scalars -/
def aM {α : Type} (f : α → V) : Ty α := ⟨fun x _ v => v = f x, fun h _ => h⟩
abbrev aV : Ty V := aM fun x => x
abbrev aI : Ty Int := aM V.int
abbrev aB : Ty Bool := aM V.bl
abbrev aS : Ty Str := aM V.str
abbrev aN : Ty Unit := aM fun _ => V.non
def optV : Option Int → V
  | none => .non
  | some i => .int i
abbrev aO : Ty (Option Int) := aM optV
section
variable {α β γ : Type}
theorem pr_mono {S S' : V → α → Prop} (h : ∀ v x, S v x → S' v x) : ∀ {vs : List V} {l : List α}, Paired S vs l → Paired S' vs l
  | _, _, .nil => .nil
  | _, _, .cons r t => .cons (h _ _ r) (pr_mono h t)
theorem pr_get {S : V → α → Prop} : ∀ {vs : List V} {l : List α} {i : Nat} {v : V}, Paired S vs l → vs[i]? = some v → ∃ x, l[i]? = some x ∧ S v x
  | _, _, i, _, .nil, h => by simp at h
  | _, _, 0, _, .cons r t, h => by simp at h; subst h; exact ⟨_, rfl, r⟩
  | _, _, i + 1, _, .cons r t, h => by
    obtain ⟨x, h1, h2⟩ := pr_get (i := i) t (by simpa using h)
    exact ⟨x, by simpa using h1, h2⟩
theorem pr_get2 {S : V → α → Prop} : ∀ {vs : List V} {l : List α} {i : Nat} {x : α}, Paired S vs l → l[i]? = some x → ∃ v, vs[i]? = some v ∧ S v x
  | _, _, i, _, .nil, h => by simp at h
  | _, _, 0, _, .cons r t, h => by simp at h; subst h; exact ⟨_, rfl, r⟩
  | _, _, i + 1, _, .cons r t, h => by
    obtain ⟨x, h1, h2⟩ := pr_get2 (i := i) t (by simpa using h)
    exact ⟨x, by simpa using h1, h2⟩
theorem pr_len {S : V → α → Prop} : ∀ {vs : List V} {l : List α}, Paired S vs l → vs.length = l.length
  | _, _, .nil => rfl
  | _, _, .cons _ t => congrArg (· + 1) (pr_len t)
theorem pr_snoc {S : V → α → Prop} {v : V} {x : α} : ∀ {vs : List V} {l : List α}, Paired S vs l → S v x → Paired S (vs ++ [v]) (l ++ [x])
  | _, _, .nil, h => .cons h .nil
  | _, _, .cons r t, h => .cons r (pr_snoc t h)
theorem pr_app {S : V → α → Prop} : ∀ {vs us : List V} {l m : List α}, Paired S vs l → Paired S us m → Paired S (vs ++ us) (l ++ m)
  | _, _, _, _, .nil, h => h
  | _, _, _, _, .cons r t, h => .cons r (pr_app t h)
theorem pr_drop {S : V → α → Prop} : ∀ {vs : List V} {l : List α} (n : Nat), Paired S vs l → Paired S (vs.drop n) (l.drop n)
  | _, _, 0, h => h
  | _, _, n + 1, .nil => .nil
  | _, _, n + 1, .cons r t => pr_drop n t
theorem pr_take {S : V → α → Prop} : ∀ {vs : List V} {l : List α} (n : Nat), Paired S vs l → Paired S (vs.take n) (l.take n)
  | _, _, 0, h => .nil
  | _, _, n + 1, .nil => .nil
  | _, _, n + 1, .cons r t => .cons r (pr_take n t)
theorem pr_set {S : V → α → Prop} {v : V} {x : α} (h : S v x) : ∀ {vs : List V} {l : List α} (i : Nat), Paired S vs l → Paired S (vs.set i v) (l.set i x)
  | _, _, _, .nil => .nil
  | _, _, 0, .cons r t => .cons h t
  | _, _, i + 1, .cons r t => .cons r (pr_set h i t)
theorem pr_erase {S : V → α → Prop} : ∀ {vs : List V} {l : List α} (i : Nat), Paired S vs l → Paired S (vs.eraseIdx i) (l.eraseIdx i)
  | _, _, _, .nil => .nil
  | _, _, 0, .cons r t => t
  | _, _, i + 1, .cons r t => .cons r (pr_erase i t)
theorem pr_map {S : V → α → Prop} {f : α → V} (h : ∀ v x, S v x → v = f x) : ∀ {vs : List V} {l : List α}, Paired S vs l → vs = l.map f
  | _, _, .nil => rfl
  | _, _, .cons r t => by rw [h _ _ r, pr_map h t]; rfl
theorem map_pr {S : V → α → Prop} {f : α → V} (h : ∀ x, S (f x) x) : ∀ l : List α, Paired S (l.map f) l
  | [] => .nil
  | x :: r => .cons (h x) (map_pr h r)
/-- the items of a list -/
def Its (τ : Ty α) (F : Hp) (us : List V) (l : List α) : Prop := Paired (fun u x => τ.R x F u) us l
theorem Its.up {τ : Ty α} {F F' : Hp} {us : List V} {l : List α} (h : Its τ F us l) (e : Ex F F') : Its τ F' us l := pr_mono (fun _ _ r => τ.up r e) h
theorem its_tM {f : α → V} {F : Hp} {us : List V} {l : List α} : Its (aM f) F us l ↔ us = l.map f :=
  ⟨fun h => pr_map (fun _ _ r => r) h, fun h => by rw [h]; exact map_pr (S := fun u x => (aM f).R x F u) (fun _ => rfl) l⟩
def aL (τ : Ty α) : Ty (List α) := ⟨fun l F v => ∃ p us, v = .ref p ∧ F p = some (.lst us) ∧ Its τ F us l, fun ⟨p, us, h1, h2, h3⟩ e => ⟨p, us, h1, e _ _ h2, h3.up e⟩⟩
def aP (τ : Ty α) (θ : Ty β) : Ty (α × β) := ⟨fun x F v => ∃ p u w, v = .ref p ∧ F p = some (.tup [u, w]) ∧ τ.R x.1 F u ∧ θ.R x.2 F w,
  fun ⟨p, u, w, h1, h2, h3, h4⟩ e => ⟨p, u, w, h1, e _ _ h2, τ.up h3 e, θ.up h4 e⟩⟩
def aT (τ : Ty α) (θ : Ty β) (ρ : Ty γ) : Ty (α × β × γ) := ⟨fun x F v => ∃ p u w z, v = .ref p ∧ F p = some (.tup [u, w, z]) ∧ τ.R x.1 F u ∧ θ.R x.2.1 F w ∧ ρ.R x.2.2 F z,
  fun ⟨p, u, w, z, h1, h2, h3, h4, h5⟩ e => ⟨p, u, w, z, h1, e _ _ h2, τ.up h3 e, θ.up h4 e, ρ.up h5 e⟩⟩
/-- none, or a thing -/
def aOp (τ : Ty α) : Ty (Option α) := ⟨fun x F v => match x with
  | none => v = .non
  | some y => τ.R y F v, fun {x F F' v} h e => match x, h with
  | none, h => h
  | some y, h => τ.up (x := y) h e⟩
/-- one of two kinds -/
def aE (τ : Ty α) (θ : Ty β) : Ty (α ⊕ β) := ⟨fun x F v => match x with
  | .inl y => τ.R y F v
  | .inr z => θ.R z F v, fun {x F F' v} h e => match x, h with
  | .inl y, h => τ.up (x := y) h e
  | .inr z, h => θ.up (x := z) h e⟩
/-- an object by its value -/
def aA (p : Addr) : Ty Unit := aM fun _ => V.ref p
/-- the script: a list that is read -/
def aScr (K : PySem.W.Frag) : Ty (List Int) := ⟨fun l F v => ∃ a, v = .ref a ∧ SqL K F a (l.map V.int), fun ⟨a, h1, h2⟩ e => ⟨a, h1, ex_l e h2⟩⟩
/-- a dict, its keys whole numbers -/
def Ents (τ : Ty α) (F : Hp) (us : List (Key × V)) (l : List (Int × α)) : Prop := Paired (fun (u : Key × V) (x : Int × α) => u.1 = .inl x.1 ∧ τ.R x.2 F u.2) us l
theorem pr_mono' {α β : Type} {S S' : α → β → Prop} (h : ∀ v x, S v x → S' v x) : ∀ {vs : List α} {l : List β}, Paired S vs l → Paired S' vs l
  | _, _, .nil => .nil
  | _, _, .cons r t => .cons (h _ _ r) (pr_mono' h t)
theorem Ents.up {τ : Ty α} {F F' : Hp} {us : List (Key × V)} {l : List (Int × α)} (h : Ents τ F us l) (e : Ex F F') : Ents τ F' us l := pr_mono' (fun _ _ r => ⟨r.1, τ.up r.2 e⟩) h
def aDK (τ : Ty α) : Ty (List (Int × α)) := ⟨fun l F v => ∃ p us, v = .ref p ∧ F p = some (.dK us) ∧ Ents τ F us l, fun ⟨p, us, h1, h2, h3⟩ e => ⟨p, us, h1, e _ _ h2, h3.up e⟩⟩
end
/-- pairs of whole numbers as keys -/
abbrev KP := Int × Int
abbrev Kvs := List (KP × Int)
def keyP (k : KP) : List Key := [.inl k.1, .inl k.2]
def bk (kvs : Kvs) : List (List Key × V) := kvs.map fun e => (keyP e.1, V.int e.2)
def aDT : Ty Kvs := ⟨fun l F v => ∃ p, v = .ref p ∧ F p = some (.dT (bk l)), fun ⟨p, h1, h2⟩ e => ⟨p, h1, e _ _ h2⟩⟩
/-! ### what is one's own: it may change -/
structure Ob (α : Type) where
  S : α → Hp → V → Hp → Prop
  up : ∀ {x F F' v M}, S x F v M → Ex F F' → S x F' v M
  ty : Ty α
  fz : ∀ {x F v M F'}, S x F v M → Ex F F' → Ex M F' → ty.R x F' v
section
variable {α : Type}
def oL (τ : Ty α) : Ob (List α) where
  S := fun l F v M => ∃ p us, v = .ref p ∧ M = one p (.lst us) ∧ Its τ F us l
  up := fun ⟨p, us, h1, h2, h3⟩ e => ⟨p, us, h1, h2, h3.up e⟩
  ty := aL τ
  fz := fun ⟨p, us, h1, h2, h3⟩ e m => ⟨p, us, h1, m _ _ (by rw [h2]; exact one_at), h3.up e⟩
def oDK (τ : Ty α) : Ob (List (Int × α)) where
  S := fun l F v M => ∃ p us, v = .ref p ∧ M = one p (.dK us) ∧ Ents τ F us l
  up := fun ⟨p, us, h1, h2, h3⟩ e => ⟨p, us, h1, h2, h3.up e⟩
  ty := aDK τ
  fz := fun ⟨p, us, h1, h2, h3⟩ e m => ⟨p, us, h1, m _ _ (by rw [h2]; exact one_at), h3.up e⟩
def oDT : Ob Kvs where
  S := fun l F v M => ∃ p, v = .ref p ∧ M = one p (.dT (bk l))
  up := fun h _ => h
  ty := aDT
  fz := fun ⟨p, h1, h2⟩ e m => ⟨p, h1, m _ _ (by rw [h2]; exact one_at)⟩
/-- a thing of one's own that stands at a place that is known -/
def Ob.at (κ : Ob α) (v0 : V) : Ob α where
  S := fun x F v M => v = v0 ∧ κ.S x F v M
  up := fun ⟨h1, h2⟩ e => ⟨h1, κ.up h2 e⟩
  ty := κ.ty
  fz := fun ⟨_, h2⟩ e m => κ.fz h2 e m
end
/-! ### the book -/
theorem ksc : ¬ (("size" : Str) = "costs") := by decide +kernel
def flds (n : Int) (d : Addr) : List (Str × V) := putF "costs" (.ref d) (putF "size" (.int n) [])
theorem flds_size (n : Int) (d : Addr) : (flds n d).lookup ("size" : Str) = some (.int n) := by
  unfold flds
  rw [lookup_putF, if_neg ksc, lookup_putF, if_pos rfl]
theorem flds_costs (n : Int) (d : Addr) : (flds n d).lookup ("costs" : Str) = some (.ref d) := by
  unfold flds
  rw [lookup_putF, if_pos rfl]
theorem flds_no (n : Int) (d : Addr) {m : Str} (h1 : ¬ m = "costs") (h2 : ¬ m = "size") : (flds n d).lookup m = none := by
  unfold flds
  rw [lookup_putF, if_neg h1, lookup_putF, if_neg h2]
  all_goals rfl
abbrev Bk := Int × Kvs
structure BookAt (C : Addr) (H : Hp) (p d dx : Addr) (b : Bk) : Prop where
  ob : H p = some (.ins C dx (flds b.1 d))
  dc : H d = some (.dT (bk b.2))
theorem BookAt.up {C : Addr} {H H' : Hp} {p d dx : Addr} {b : Bk} (B : BookAt C H p d dx b) (e : Ex H H') : BookAt C H' p d dx b := ⟨e _ _ B.ob, e _ _ B.dc⟩
theorem BookAt.ne {C : Addr} {H : Hp} {p d dx : Addr} {b : Bk} (B : BookAt C H p d dx b) : p ≠ d := ne_of B.ob B.dc (by intro z; cases z)
def aBk (C : Addr) : Ty Bk := ⟨fun b F v => ∃ p d dx, v = .ref p ∧ BookAt C F p d dx b, fun ⟨p, d, dx, h1, h2⟩ e => ⟨p, d, dx, h1, h2.up e⟩⟩
def bkH (C p d dx : Addr) (b : Bk) : Hp := upd (one p (.ins C dx (flds b.1 d))) d (.dT (bk b.2))
theorem bkH_some {C p d dx a : Addr} {b : Bk} {o : HO} (h : bkH C p d dx b a = some o) : (a = d ∧ o = .dT (bk b.2)) ∨ (a ≠ d ∧ a = p ∧ o = .ins C dx (flds b.1 d)) := by
  unfold bkH at h
  by_cases e : a = d
  · rw [e, upd_same] at h; exact .inl ⟨e, (Option.some.inj h).symm⟩
  · rw [upd_ne e] at h; obtain ⟨h1, h2⟩ := one_some h; exact .inr ⟨e, h1, h2⟩
theorem bkH_at {C p d dx : Addr} {b : Bk} (n : p ≠ d) : BookAt C (bkH C p d dx b) p d dx b := ⟨by unfold bkH; rw [upd_ne n]; exact one_at, upd_same⟩
theorem bkH_ex {C p d dx : Addr} {b : Bk} {H : Hp} (B : BookAt C H p d dx b) : Ex (bkH C p d dx b) H := fun a o h => by
  rcases bkH_some h with ⟨rfl, rfl⟩ | ⟨_, rfl, rfl⟩
  · exact B.dc
  · exact B.ob
def oBk (C : Addr) : Ob Bk where
  S := fun b F v M => ∃ p d dx, v = .ref p ∧ p ≠ d ∧ M = bkH C p d dx b
  up := fun h _ => h
  ty := aBk C
  fz := fun ⟨p, d, dx, h1, h2, h3⟩ e m => ⟨p, d, dx, h1, (bkH_at h2).up (h3 ▸ m)⟩
/-! ### slots -/
inductive Spec : Type 1 where
  | any
  | is {α : Type} (τ : Ty α) (x : α)
  | own {α : Type} (κ : Ob α) (x : α)
  | see {α : Type} (τ : Ty α) (x : α)
def Ok (F Fr M : Hp) : Spec → Option (Option V) → Prop
  | .any, _ => True
  | .is τ x, o => ∃ v, o = some (some v) ∧ τ.R x F v
  | .own κ x, o => ∃ v, o = some (some v) ∧ κ.S x F v M
  | .see τ x, o => ∃ v B, o = some (some v) ∧ Ex B Fr ∧ τ.R x B v
theorem Ok.up {F F' Fr Fr' M : Hp} {s : Spec} {o : Option (Option V)} (h : Ok F Fr M s o) (e : Ex F F') (e2 : Ex Fr Fr') : Ok F' Fr' M s o := by
  cases s with
  | any => trivial
  | is τ x => obtain ⟨v, h1, h2⟩ := h; exact ⟨v, h1, τ.up h2 e⟩
  | own κ x => obtain ⟨v, h1, h2⟩ := h; exact ⟨v, h1, κ.up h2 e⟩
  | see τ x => obtain ⟨v, B, h1, h2, h3⟩ := h; exact ⟨v, B, h1, h2.trans e2, h3⟩
/-- around a call: A what may be told again; Fr what is not touched; N what stood; J the slots that hold what is handed in to be changed -/
structure Cw where
  A : Hp
  Fr : Hp
  N : Addr → Prop
  J : Nat → Prop
structure Wd (c : Cw) (Γ : List Spec) (σ : L2.St) (F : Hp) (Ms : Nat → Hp) (H : Hp) : Prop where
  len : Γ.length = σ.length
  fx : Ex F H
  fr : Ex c.Fr H
  af : Ex c.A F
  fn : ∀ a o, F a = some o → c.A a = none → ¬ c.N a
  dm : ∀ a, c.N a → ∃ o, H a = some o
  mx : ∀ i, Ex (Ms i) H
  mf : ∀ i a o, Ms i a = some o → F a = none
  mr : ∀ i a o, Ms i a = some o → c.Fr a = none
  mj : ∀ i a o, Ms i a = some o → c.N a → c.J i
  mm : ∀ i j a o, i ≠ j → Ms i a = some o → Ms j a = none
  ok : ∀ i s, Γ[i]? = some s → Ok F c.Fr (Ms i) s σ[i]?
/-- what stands still has grown by new things -/
structure Stp (F H F' H' : Hp) : Prop where
  f : Ex F F'
  h : Ex H H'
  fh : Ex F' H'
  n : ∀ a o, F' a = some o → F a = none → H a = none
theorem Stp.refl {F H : Hp} (e : Ex F H) : Stp F H F H := ⟨Ex.refl _, Ex.refl _, e, fun a o h n => by rw [h] at n; cases n⟩
theorem Stp.trans {F H F1 H1 F2 H2 : Hp} (a : Stp F H F1 H1) (b : Stp F1 H1 F2 H2) : Stp F H F2 H2 := ⟨a.f.trans b.f, a.h.trans b.h, b.fh, fun x o e n => by
  cases q : F1 x with
  | some u => exact a.n x u q n
  | none => exact fresh_back a.h (b.n x o e q)⟩
/-- the heap alone has grown -/
theorem Stp.heap {F H H' : Hp} (e : Ex F H) (h : Ex H H') : Stp F H F H' := ⟨Ex.refl _, h, e.trans h, fun a o q n => by rw [q] at n; cases n⟩
/-- a new thing stands still -/
theorem Stp.new {F H : Hp} (e : Ex F H) {p : Addr} {o : HO} (h : H p = none) : Stp F H (upd F p o) (upd H p o) where
  f := Ex.new (fresh_back e h)
  h := Ex.new h
  fh := fun a u q => by
    by_cases z : a = p
    · rw [z, upd_same] at q ⊢; exact q
    · rw [upd_ne z] at q ⊢; exact e _ _ q
  n := fun a u q n => by
    by_cases z : a = p
    · rw [z]; exact h
    · rw [upd_ne z] at q; rw [q] at n; cases n
/-- new things of one's own are let stand -/
theorem Stp.join {F H F' H' M : Hp} (s : Stp F H F' H') (m : Ex M H') (n : ∀ a o, M a = some o → H a = none ∧ F' a = none) : Stp F H (join F' M) H' where
  f := s.f.trans (ex_join_l fun a o h => (n a o h).2)
  h := s.h
  fh := join_ex s.fh m
  n := fun a o q z => by
    rcases join_some q with q | ⟨_, q⟩
    · exact (n a o q).1
    · exact s.n a o q z
section
variable {c : Cw} {Γ Δ : List Spec} {σ : L2.St} {F H F' H' M : Hp} {Ms : Nat → Hp}
theorem Wd.step (w : Wd c Γ σ F Ms H) (s : Stp F H F' H') : Wd c Γ σ F' Ms H' where
  len := w.len
  fx := s.fh
  fr := w.fr.trans s.h
  af := w.af.trans s.f
  fn := fun a o h n k => by
    cases q : F a with
    | some u => exact w.fn a u q n k
    | none =>
      obtain ⟨u, hu⟩ := w.dm a k
      rw [s.n a o h q] at hu; cases hu
  dm := fun a k => by obtain ⟨u, hu⟩ := w.dm a k; exact ⟨u, s.h _ _ hu⟩
  mx := fun i => (w.mx i).trans s.h
  mf := fun i a o h => none_of fun u hu => by
    have e := s.n a u hu (w.mf i a o h)
    have := w.mx i _ _ h
    rw [e] at this; cases this
  mr := w.mr
  mj := w.mj
  mm := w.mm
  ok := fun i s' h => (w.ok i s' h).up s.f (Ex.refl _)
/-- a slot that holds what stands still -/
theorem Wd.set (w : Wd c Γ σ F Ms H) {α : Type} {τ : Ty α} {x : α} {v : V} (i : Nat) (r : τ.R x F v) : Wd c (Γ.set i (.is τ x)) (σ.set i (some v)) F Ms H :=
  { w with
    len := by rw [List.length_set, List.length_set, w.len]
    ok := fun j s h => by
      by_cases e : i = j
      · subst e
        rw [List.getElem?_set] at h
        rw [if_pos rfl] at h
        split at h
        · rename_i hl
          rw [← Option.some.inj h, List.getElem?_set_self (by rw [← w.len]; exact hl)]
          exact ⟨v, rfl, r⟩
        · cases h
      · rw [List.getElem?_set_ne e] at h ⊢
        exact w.ok j s h }
/-- of which nothing is known -/
theorem Wd.lose (w : Wd c Γ σ F Ms H) (i : Nat) (o : Option V) : Wd c (Γ.set i .any) (σ.set i o) F Ms H :=
  { w with
    len := by rw [List.length_set, List.length_set, w.len]
    ok := fun j s h => by
      by_cases e : i = j
      · subst e
        rw [List.getElem?_set] at h
        rw [if_pos rfl] at h
        split at h
        · rw [← Option.some.inj h]; trivial
        · cases h
      · rw [List.getElem?_set_ne e] at h ⊢
        exact w.ok j s h }
def updM (Ms : Nat → Hp) (i : Nat) (M : Hp) : Nat → Hp := fun j => if j = i then M else Ms j
theorem updM_same {i : Nat} : updM Ms i M i = M := if_pos rfl
theorem updM_ne {i j : Nat} (h : j ≠ i) : updM Ms i M j = Ms j := if_neg h
/-- a slot that holds a new thing of one's own -/
theorem Wd.setOwn (w : Wd c Γ σ F Ms H) {α : Type} {κ : Ob α} {x : α} {v : V} (i : Nat) (m : Ex M H) (mf : ∀ a o, M a = some o → F a = none) (mr : ∀ a o, M a = some o → c.Fr a = none) (mj : ∀ a o, M a = some o → c.N a → c.J i)
    (mm : ∀ j a o, j ≠ i → M a = some o → Ms j a = none) (r : κ.S x F v M) : Wd c (Γ.set i (.own κ x)) (σ.set i (some v)) F (updM Ms i M) H where
  len := by rw [List.length_set, List.length_set, w.len]
  fx := w.fx
  fr := w.fr
  af := w.af
  fn := w.fn
  dm := w.dm
  mx := fun j => by
    by_cases e : j = i
    · rw [e, updM_same]; exact m
    · rw [updM_ne e]; exact w.mx j
  mf := fun j a o h => by
    by_cases e : j = i
    · rw [e, updM_same] at h; exact mf a o h
    · rw [updM_ne e] at h; exact w.mf j a o h
  mr := fun j a o h => by
    by_cases e : j = i
    · rw [e, updM_same] at h; exact mr a o h
    · rw [updM_ne e] at h; exact w.mr j a o h
  mj := fun j a o h k => by
    by_cases e : j = i
    · rw [e, updM_same] at h; rw [e]; exact mj a o h k
    · rw [updM_ne e] at h; exact w.mj j a o h k
  mm := fun j k a o n h => by
    by_cases e : j = i
    · rw [e, updM_same] at h
      rw [updM_ne (fun q => n (by rw [e, q]))]
      exact mm k a o (fun q => n (by rw [e, q])) h
    · rw [updM_ne e] at h
      by_cases e2 : k = i
      · rw [e2, updM_same]
        refine none_of fun u hu => ?_
        rw [mm j a u e hu] at h; cases h
      · rw [updM_ne e2]; exact w.mm j k a o n h
  ok := fun j s h => by
    by_cases e : i = j
    · subst e
      rw [List.getElem?_set] at h
      rw [if_pos rfl] at h
      split at h
      · rename_i hl
        rw [← Option.some.inj h, List.getElem?_set_self (by rw [← w.len]; exact hl), updM_same]
        exact ⟨v, rfl, r⟩
      · cases h
    · rw [List.getElem?_set_ne e] at h ⊢
      rw [updM_ne (fun q => e q.symm)]
      exact w.ok j s h
/-- new things of one's own: they stood nowhere -/
theorem Wd.setNew (w : Wd c Γ σ F Ms H) (s : Stp F H F' H') {α : Type} {κ : Ob α} {x : α} {v : V} (i : Nat) (m : Ex M H') (n : ∀ a o, M a = some o → H a = none ∧ F' a = none) (r : κ.S x F' v M) :
    Wd c (Γ.set i (.own κ x)) (σ.set i (some v)) F' (updM Ms i M) H' :=
  (w.step s).setOwn i m (fun a o h => (n a o h).2) (fun a o h => none_of fun u hu => by
    have := w.fr _ _ hu
    rw [(n a o h).1] at this; cases this) (fun a o h k => by
    obtain ⟨u, hu⟩ := w.dm a k
    rw [(n a o h).1] at hu; cases hu) (fun j a o _ h => none_of fun u hu => by
    have := w.mx j _ _ hu
    rw [(n a o h).1] at this; cases this) r
/-- the thing of one's own in a slot changes -/
theorem Wd.mut (w : Wd c Γ σ F Ms H) {α β : Type} {κ : Ob α} {x : α} {κ' : Ob β} {y : β} {i : Nat} (h : Γ[i]? = some (.own κ x)) :
    ∃ v, σ[i]? = some (some v) ∧ κ.S x F v (Ms i) ∧ Ex (Ms i) H ∧ ∀ M' F' H', Ex F F' → Ex M' H' → (∀ a o, H a = some o → Ms i a = none → H' a = some o) → (∀ a, (∃ o, Ms i a = some o) → ∃ o, H' a = some o) → (∀ a o, M' a = some o → (∃ u, Ms i a = some u) ∨ H a = none) →
      (∀ a o, M' a = some o → F' a = none) → Ex F' H' → (∀ a o, F' a = some o → F a = none → H a = none) → κ'.S y F' v M' → Wd c (Γ.set i (.own κ' y)) σ F' (updM Ms i M') H' := by
  obtain ⟨v, h1, h2⟩ := w.ok i _ h
  refine ⟨v, h1, h2, w.mx i, fun M' F' H' eF m keep keep2 sub mf' fh' fn' r => ?_⟩
  have es : σ.set i (some v) = σ := by
    refine List.ext_getElem? fun j => ?_
    by_cases e : i = j
    · subst e
      rw [List.getElem?_set_self (List.getElem?_eq_some_iff.mp h1).1, h1]
    · rw [List.getElem?_set_ne e]
  have domH : ∀ a, (∃ o, H a = some o) → ∃ o, H' a = some o := fun a ⟨o, ho⟩ => by
    cases q : Ms i a with
    | none => exact ⟨o, keep a o ho q⟩
    | some u => exact keep2 a ⟨u, q⟩
  have w1 : Wd c (Γ.set i .any) (σ.set i (some v)) F' (updM Ms i none0) H' := {
    len := by rw [List.length_set, List.length_set, w.len]
    fx := fh'
    fr := fun a o ho => keep a o (w.fr a o ho) (none_of fun u hu => by rw [w.mr i a u hu] at ho; cases ho)
    af := w.af.trans eF
    fn := fun a o ho n k => by
      cases q : F a with
      | some u => exact w.fn a u q n k
      | none =>
        obtain ⟨u, hu⟩ := w.dm a k
        rw [fn' a o ho q] at hu; cases hu
    dm := fun a k => domH a (w.dm a k)
    mx := fun j => by
      by_cases e : j = i
      · rw [e, updM_same]; exact ex_none0
      · rw [updM_ne e]; exact fun a o ho => keep a o (w.mx j a o ho) (w.mm j i a o e ho)
    mf := fun j a o ho => by
      by_cases e : j = i
      · rw [e, updM_same] at ho; cases ho
      · rw [updM_ne e] at ho
        refine none_of fun u hu => ?_
        have z := fn' a u hu (w.mf j a o ho)
        have := w.mx j _ _ ho
        rw [z] at this; cases this
    mr := fun j a o ho => by
      by_cases e : j = i
      · rw [e, updM_same] at ho; cases ho
      · rw [updM_ne e] at ho; exact w.mr j a o ho
    mj := fun j a o ho => by
      by_cases e : j = i
      · rw [e, updM_same] at ho; cases ho
      · rw [updM_ne e] at ho; exact w.mj j a o ho
    mm := fun j k a o n ho => by
      by_cases e : j = i
      · rw [e, updM_same] at ho; cases ho
      · rw [updM_ne e] at ho
        by_cases e2 : k = i
        · rw [e2, updM_same]; rfl
        · rw [updM_ne e2]; exact w.mm j k a o n ho
    ok := fun j s hs => by
      by_cases e : i = j
      · subst e
        rw [List.getElem?_set, if_pos rfl] at hs
        split at hs
        · rw [← Option.some.inj hs]; trivial
        · cases hs
      · rw [List.getElem?_set_ne e] at hs ⊢
        rw [updM_ne (fun q => e q.symm)]
        exact (w.ok j s hs).up eF (Ex.refl _) }
  have w2 := w1.setOwn (κ := κ') (x := y) (v := v) i m mf' (fun a o ho => by
    rcases sub a o ho with ⟨u, hu⟩ | hn
    · exact w.mr i a u hu
    · exact none_of fun u hu => by have := w.fr _ _ hu; rw [hn] at this; cases this) (fun a o ho k => by
    rcases sub a o ho with ⟨u, hu⟩ | hn
    · exact w.mj i a u hu k
    · obtain ⟨u, hu⟩ := w.dm a k; rw [hn] at hu; cases hu) (fun j a o n ho => by
    rw [updM_ne n]
    rcases sub a o ho with ⟨u, hu⟩ | hn
    · exact w.mm i j a u (fun q => n q.symm) hu
    · exact none_of fun u hu => by have := w.mx j _ _ hu; rw [hn] at this; cases this) r
  rw [List.set_set, List.set_set, es] at w2
  have em : updM (updM Ms i none0) i M' = updM Ms i M' := by
    funext j
    by_cases e : j = i
    · rw [e, updM_same, updM_same]
    · rw [updM_ne e, updM_ne e, updM_ne e]
  rw [em] at w2
  exact w2
/-- the thing in a slot is let stand -/
theorem Wd.freeze (w : Wd c Γ σ F Ms H) {α : Type} {κ : Ob α} {x : α} {i : Nat} (h : Γ[i]? = some (.own κ x)) (hj : ¬ c.J i) : ∃ F', Wd c (Γ.set i (.is κ.ty x)) σ F' (updM Ms i none0) H ∧ Ex F F' := by
  obtain ⟨v, h1, h2⟩ := w.ok i _ h
  have es : σ.set i (some v) = σ := by
    refine List.ext_getElem? fun j => ?_
    by_cases e : i = j
    · subst e
      rw [List.getElem?_set_self (List.getElem?_eq_some_iff.mp h1).1, h1]
    · rw [List.getElem?_set_ne e]
  have eF : Ex F (join F (Ms i)) := ex_join_l fun a o q => w.mf i a o q
  refine ⟨join F (Ms i), ?_, eF⟩
  exact {
    len := by rw [List.length_set, w.len]
    fx := join_ex w.fx (w.mx i)
    fr := w.fr
    af := w.af.trans eF
    fn := fun a o ho n k => by
      rcases join_some ho with q | ⟨_, q⟩
      · exact hj (w.mj i a o q k)
      · exact w.fn a o q n k
    dm := w.dm
    mx := fun j => by
      by_cases e : j = i
      · rw [e, updM_same]; exact ex_none0
      · rw [updM_ne e]; exact w.mx j
    mf := fun j a o ho => by
      by_cases e : j = i
      · rw [e, updM_same] at ho; cases ho
      · rw [updM_ne e] at ho
        rw [join_l (w.mm j i a o e ho)]
        exact w.mf j a o ho
    mr := fun j a o ho => by
      by_cases e : j = i
      · rw [e, updM_same] at ho; cases ho
      · rw [updM_ne e] at ho; exact w.mr j a o ho
    mj := fun j a o ho => by
      by_cases e : j = i
      · rw [e, updM_same] at ho; cases ho
      · rw [updM_ne e] at ho; exact w.mj j a o ho
    mm := fun j k a o n ho => by
      by_cases e : j = i
      · rw [e, updM_same] at ho; cases ho
      · rw [updM_ne e] at ho
        by_cases e2 : k = i
        · rw [e2, updM_same]; rfl
        · rw [updM_ne e2]; exact w.mm j k a o n ho
    ok := fun j s hs => by
      by_cases e : i = j
      · subst e
        rw [List.getElem?_set, if_pos rfl] at hs
        split at hs
        · rw [← Option.some.inj hs]
          exact ⟨v, h1, κ.fz h2 eF ex_join_r⟩
        · cases hs
      · rw [List.getElem?_set_ne e] at hs
        rw [updM_ne (fun q => e q.symm)]
        exact (w.ok j s hs).up eF (Ex.refl _) }
/-! ### weaker words of the slots -/
def Wk : List Spec → List Spec → Prop
  | [], [] => True
  | s :: Γ, t :: Δ => (t = .any ∨ s = t) ∧ Wk Γ Δ
  | _, _ => False
theorem Wk.len : ∀ {Γ Δ : List Spec}, Wk Γ Δ → Γ.length = Δ.length
  | [], [], _ => rfl
  | s :: Γ, t :: Δ, h => congrArg (· + 1) (Wk.len h.2)
theorem Wk.get : ∀ {Γ Δ : List Spec} {i : Nat} {t : Spec}, Wk Γ Δ → Δ[i]? = some t → t = .any ∨ Γ[i]? = some t
  | [], [], i, t, _, e => by simp at e
  | s :: Γ, u :: Δ, 0, t, h, e => by
    simp at e; subst e
    rcases h.1 with h | h
    · exact .inl h
    · exact .inr (by rw [h]; rfl)
  | s :: Γ, u :: Δ, i + 1, t, h, e => by
    have := Wk.get (i := i) h.2 (by simpa using e)
    simpa using this
theorem Wd.weak (w : Wd c Γ σ F Ms H) (k : Wk Γ Δ) : Wd c Δ σ F Ms H :=
  { w with
    len := by rw [← k.len, w.len]
    ok := fun i s h => by
      rcases k.get h with e | e
      · rw [e]; trivial
      · exact w.ok i s e }
end
/-! ### what holds at a point of a def -/
def Hd (c : Cw) (Γ : List Spec) (σ : L2.St) (H : Hp) : Prop := ∃ F Ms, Wd c Γ σ F Ms H
structure Cw.le (c d : Cw) : Prop where
  a : Ex c.A d.A
  n : ∀ x o, d.A x = some o → c.A x = none → ¬ c.N x
  fr : d.Fr = c.Fr
  nn : d.N = c.N
  j : d.J = c.J
theorem Cw.le.refl (c : Cw) : c.le c := ⟨Ex.refl _, fun _ _ h n => (by rw [h] at n; cases n), rfl, rfl, rfl⟩
theorem Cw.le.trans {c d e : Cw} (h : c.le d) (k : d.le e) : c.le e := ⟨h.a.trans k.a, fun x o q n => by
  cases z : d.A x with
  | none => have := k.n x o q z; rw [h.nn] at this; exact this
  | some u => exact h.n x u z n, by rw [k.fr, h.fr], by rw [k.nn, h.nn], by rw [k.j, h.j]⟩
theorem Wd.sub {c d : Cw} (h : c.le d) {Γ : List Spec} {σ : L2.St} {F H : Hp} {Ms : Nat → Hp} (w : Wd d Γ σ F Ms H) : Wd c Γ σ F Ms H where
  len := w.len
  fx := w.fx
  fr := by rw [← h.fr]; exact w.fr
  af := h.a.trans w.af
  fn := fun a o q n k => by
    cases z : d.A a with
    | none => exact w.fn a o q z (by rw [h.nn]; exact k)
    | some u => exact h.n a u z n k
  dm := by rw [← h.nn]; exact w.dm
  mx := w.mx
  mf := w.mf
  mr := by rw [← h.fr]; exact w.mr
  mj := by rw [← h.nn, ← h.j]; exact w.mj
  mm := w.mm
  ok := by rw [← h.fr]; exact w.ok
/-- what stands still now is what may be told -/
def Cw.here (c : Cw) (F : Hp) : Cw := ⟨F, c.Fr, c.N, c.J⟩
theorem Wd.here {c : Cw} {Γ : List Spec} {σ : L2.St} {F H : Hp} {Ms : Nat → Hp} (w : Wd c Γ σ F Ms H) : Wd (c.here F) Γ σ F Ms H :=
  { w with
    af := Ex.refl _
    fn := fun a o q n => by rw [show (c.here F).A a = F a from rfl, q] at n; cases n }
theorem Wd.here_le {c : Cw} {Γ : List Spec} {σ : L2.St} {F H : Hp} {Ms : Nat → Hp} (w : Wd c Γ σ F Ms H) : c.le (c.here F) := ⟨w.af, fun x o q n => w.fn x o q n, rfl, rfl, rfl⟩
end HG

/-! what evaluates to what -/
namespace HG
open PySem PyProof.Rows L2 Evl
variable {α β γ δ : Type}
/-- te evaluates to what x stands for -/
def EG (c : Cw) (Γ : List Spec) (te : TE) (τ : Ty α) (x : α) : Prop := ∀ σ F Ms H, Wd c Γ σ F Ms H → ∀ Q : VK, (∀ v F' H', Stp F H F' H' → τ.R x F' v → Q v H') → te σ H Q
/-- to a new thing -/
def EN (c : Cw) (Γ : List Spec) (te : TE) (κ : Ob α) (x : α) : Prop := ∀ σ F Ms H, Wd c Γ σ F Ms H → ∀ Q : VK,
  (∀ v F' M H', Stp F H F' H' → Ex M H' → (∀ a o, M a = some o → H a = none ∧ F' a = none) → κ.S x F' v M → Q v H') → te σ H Q
def ET (c : Cw) (Γ : List Spec) (tt : TT) (b : Bool) : Prop := ∀ σ F Ms H, Wd c Γ σ F Ms H → ∀ Q : Bool → Hp → Prop, (∀ F' H', Stp F H F' H' → Q b H') → tt σ H Q
def AOk (F H : Hp) : List Spec → List V → Prop
  | [], [] => True
  | s :: Ss, v :: vs => Ok F H none0 s (some (some v)) ∧ AOk F H Ss vs
  | _, _ => False
theorem AOk.up {F F' H H' : Hp} (e : Ex F F') (e2 : Ex H H') : ∀ {Ss : List Spec} {vs : List V}, AOk F H Ss vs → AOk F' H' Ss vs
  | [], [], _ => trivial
  | s :: Ss, v :: vs, h => ⟨h.1.up e e2, AOk.up e e2 h.2⟩
/-- arguments -/
def EA (c : Cw) (Γ : List Spec) (ta : TA) (Ss : List Spec) : Prop := ∀ σ F Ms H, Wd c Γ σ F Ms H → ∀ Q : List V → Hp → Prop, (∀ vs F' H', Stp F H F' H' → AOk F' H' Ss vs → Q vs H') → ta σ H Q
/-- arguments of one kind -/
def EAs (c : Cw) (Γ : List Spec) (ta : TA) (τ : Ty α) (l : List α) : Prop := ∀ σ F Ms H, Wd c Γ σ F Ms H → ∀ Q : List V → Hp → Prop, (∀ vs F' H', Stp F H F' H' → Its τ F' vs l → Q vs H') → ta σ H Q
/-- a list that may be read -/
def EL (K : PySem.W.Frag) (c : Cw) (Γ : List Spec) (te : TE) (τ : Ty α) (l : List α) : Prop := ∀ σ F Ms H, Wd c Γ σ F Ms H → ∀ Q : VK, (∀ a us F' H', Stp F H F' H' → SqL K H' a us → Its τ F' us l → Q (.ref a) H') → te σ H Q
/-- a list that stands in the heap by itself -/
def EX (c : Cw) (Γ : List Spec) (te : TE) (τ : Ty α) (l : List α) : Prop := ∀ σ F Ms H, Wd c Γ σ F Ms H → ∀ Q : VK, (∀ a us F' H', Stp F H F' H' → H' a = some (.lst us) → Its τ F' us l → Q (.ref a) H') → te σ H Q
/-- dicts -/
def EDK (c : Cw) (Γ : List Spec) (te : TE) (τ : Ty α) (l : List (Int × α)) : Prop := ∀ σ F Ms H, Wd c Γ σ F Ms H → ∀ Q : VK, (∀ a us F' H', Stp F H F' H' → Rd H' a (.dK us) → Ents τ F' us l → Q (.ref a) H') → te σ H Q
def EDT (c : Cw) (Γ : List Spec) (te : TE) (l : Kvs) : Prop := ∀ σ F Ms H, Wd c Γ σ F Ms H → ∀ Q : VK, (∀ a F' H', Stp F H F' H' → H' a = some (.dT (bk l)) → Q (.ref a) H') → te σ H Q
/-- a key of two whole numbers -/
def EKP (c : Cw) (Γ : List Spec) (te : TE) (k : KP) : Prop := ∀ σ F Ms H, Wd c Γ σ F Ms H → ∀ Q : VK, (∀ a F' H', Stp F H F' H' → H' a = some (.tup [.int k.1, .int k.2]) → Q (.ref a) H') → te σ H Q
/-- a book -/
def EB (C : Addr) (c : Cw) (Γ : List Spec) (te : TE) (b : Bk) : Prop := ∀ σ F Ms H, Wd c Γ σ F Ms H → ∀ Q : VK, (∀ p d dx F' H', Stp F H F' H' → BookAt C H' p d dx b → Q (.ref p) H') → te σ H Q
section
variable {K : PySem.W.Frag} {C : Addr} {c : Cw} {Γ : List Spec} {ta tb te tl td : TE} {t u : TT} {τ : Ty α} {θ : Ty β} {ρ : Ty γ} {x : α} {y : β} {z : γ}
theorem eg_var {i : Nat} (h : Γ[i]? = some (.is τ x)) : EG c Γ (tVar i) τ x := fun σ F Ms H w Q q => by
  obtain ⟨v, h1, h2⟩ := w.ok i _ h
  exact ⟨v, h1, q v F H (Stp.refl w.fx) h2⟩
theorem eg_cV {v : V} : EG c Γ (tC v) aV v := fun σ F Ms H w Q q => q v F H (Stp.refl w.fx) rfl
theorem eg_int {i : Int} : EG c Γ (tC (.int i)) aI i := eg_cV
theorem eg_bl {b : Bool} : EG c Γ (tC (.bl b)) aB b := eg_cV
theorem eg_str {b : Str} : EG c Γ (tC (.str b)) aS b := eg_cV
theorem eg_non : EG c Γ (tC .non) aN () := eg_cV
theorem EG.eq {x' : α} (h : EG c Γ te τ x) (e : x = x') : EG c Γ te τ x' := e ▸ h
theorem ET.eq {b b' : Bool} (h : ET c Γ t b) (e : b = b') : ET c Γ t b' := e ▸ h
theorem EG.conv {x : α} {y : β} (h : EG c Γ te τ x) (e : ∀ F v, τ.R x F v → θ.R y F v) : EG c Γ te θ y := fun σ F Ms H w Q q => h σ F Ms H w Q fun v F' H' s r => q v F' H' s (e _ _ r)
/-- a new thing is let stand -/
theorem EN.fz {κ : Ob α} (h : EN c Γ te κ x) : EG c Γ te κ.ty x := fun σ F Ms H w Q q => h σ F Ms H w Q fun v F' M H' s m n r => q v (join F' M) H' (s.join m n) (κ.fz r (ex_join_l fun a o h => (n a o h).2) ex_join_r)
/-- an operation on two values -/
def RG (r : R2) (τ : Ty α) (x : α) (θ : Ty β) (y : β) (ρ : Ty γ) (z : γ) : Prop := ∀ F H u v, Ex F H → τ.R x F u → θ.R y F v → ∀ Q : VK, (∀ w F' H', Stp F H F' H' → ρ.R z F' w → Q w H') → r u v H Q
theorem eg_op {r : R2} (ha : EG c Γ ta τ x) (hb : EG c Γ tb θ y) (hr : RG r τ x θ y ρ z) : EG c Γ (tOp r ta tb) ρ z := fun σ F Ms H w Q q =>
  ha σ F Ms H w _ fun u F1 H1 s1 r1 => hb σ F1 Ms H1 (w.step s1) _ fun v F2 H2 s2 r2 => hr F2 H2 u v s2.fh (τ.up r1 s2.f) r2 Q fun v' F3 H3 s3 r3 => q v' F3 H3 ((s1.trans s2).trans s3) r3
theorem rg_val {r : R2} {f : α → V} {g : β → V} {k : γ → V} (h : ∀ H (Q : VK), Q (k z) H → r (f x) (g y) H Q) : RG r (aM f) x (aM g) y (aM k) z := fun F H u v e h1 h2 Q q => by
  cases h1; cases h2
  exact h H Q (q _ F H (Stp.refl e) rfl)
theorem eg_Ii {g : Int → Int → Int} {i j : Int} (ha : EG c Γ ta aI i) (hb : EG c Γ tb aI j) : EG c Γ (tOp (rI0 fun i j => .int (g i j)) ta tb) aI (g i j) := eg_op ha hb (rg_val fun H Q q => ⟨i, j, rfl, rfl, q⟩)
theorem eg_Ib {g : Int → Int → Bool} {i j : Int} (ha : EG c Γ ta aI i) (hb : EG c Γ tb aI j) : EG c Γ (tOp (rI0 fun i j => .bl (g i j)) ta tb) aB (g i j) := eg_op ha hb (rg_val fun H Q q => ⟨i, j, rfl, rfl, q⟩)
theorem eg_Ic {D : Int → Int → Prop} {g : Int → Int → Int} {i j : Int} (ha : EG c Γ ta aI i) (hb : EG c Γ tb aI j) (hc : D i j) : EG c Γ (tOp (rI D fun i j => .int (g i j)) ta tb) aI (g i j) := eg_op ha hb (rg_val fun H Q q => ⟨i, j, rfl, rfl, hc, q⟩)
theorem eg_un {g : Int → Int} {i : Int} (ha : EG c Γ ta aI i) : EG c Γ (tUn (rU fun i => .int (g i)) ta) aI (g i) := fun σ F Ms H w Q q =>
  ha σ F Ms H w _ fun u F1 H1 s1 r1 => ⟨i, r1, q _ F1 H1 s1 rfl⟩
/-- == of scalars -/
theorem eg_eqV {x y : V} (ha : EG c Γ ta aV x) (hb : EG c Γ tb aV y) (h : scal x y = true) : EG c Γ (tOp rEq ta tb) aB (decide (x = y)) := eg_op ha hb (rg_val fun H Q q => ⟨h, q⟩)
theorem eg_neV {x y : V} (ha : EG c Γ ta aV x) (hb : EG c Γ tb aV y) (h : scal x y = true) : EG c Γ (tOp rNe ta tb) aB (!decide (x = y)) := eg_op ha hb (rg_val fun H Q q => ⟨h, q⟩)
theorem dec_f {f : α → V} [DecidableEq α] (h : ∀ x y, f x = f y → x = y) (x y : α) : decide (f x = f y) = decide (x = y) := decide_eq_decide.mpr ⟨h x y, fun e => e ▸ rfl⟩
theorem eg_eqI {i j : Int} (ha : EG c Γ ta aI i) (hb : EG c Γ tb aI j) : EG c Γ (tOp rEq ta tb) aB (decide (i = j)) := (eg_eqV (x := .int i) (y := .int j) ha hb rfl).eq (dec_f (f := V.int) (fun _ _ e => V.int.inj e) i j)
theorem eg_neI {i j : Int} (ha : EG c Γ ta aI i) (hb : EG c Γ tb aI j) : EG c Γ (tOp rNe ta tb) aB (!decide (i = j)) := (eg_neV (x := .int i) (y := .int j) ha hb rfl).eq (by rw [dec_f (f := V.int) (fun _ _ e => V.int.inj e) i j])
theorem eg_eqS {i j : Str} (ha : EG c Γ ta aS i) (hb : EG c Γ tb aS j) : EG c Γ (tOp rEq ta tb) aB (decide (i = j)) := (eg_eqV (x := .str i) (y := .str j) ha hb rfl).eq (dec_f (f := V.str) (fun _ _ e => V.str.inj e) i j)
theorem eg_neS {i j : Str} (ha : EG c Γ ta aS i) (hb : EG c Γ tb aS j) : EG c Γ (tOp rNe ta tb) aB (!decide (i = j)) := (eg_neV (x := .str i) (y := .str j) ha hb rfl).eq (by rw [dec_f (f := V.str) (fun _ _ e => V.str.inj e) i j])
theorem eg_eqB {i j : Bool} (ha : EG c Γ ta aB i) (hb : EG c Γ tb aB j) : EG c Γ (tOp rEq ta tb) aB (decide (i = j)) := (eg_eqV (x := .bl i) (y := .bl j) ha hb rfl).eq (dec_f (f := V.bl) (fun _ _ e => V.bl.inj e) i j)
theorem optV_inj : ∀ x y : Option Int, optV x = optV y → x = y
  | none, none, _ => rfl
  | none, some _, e => nomatch e
  | some _, none, e => nomatch e
  | some i, some j, e => by rw [V.int.inj e]
theorem scal_opt : ∀ x y : Option Int, scal (optV x) (optV y) = true
  | none, none => rfl
  | none, some _ => rfl
  | some _, none => rfl
  | some i, some j => rfl
theorem eg_eqO {i j : Option Int} (ha : EG c Γ ta aO i) (hb : EG c Γ tb aO j) : EG c Γ (tOp rEq ta tb) aB (decide (i = j)) := (eg_eqV (x := optV i) (y := optV j) ha hb (scal_opt i j)).eq (dec_f optV_inj i j)
theorem eg_neO {i j : Option Int} (ha : EG c Γ ta aO i) (hb : EG c Γ tb aO j) : EG c Γ (tOp rNe ta tb) aB (!decide (i = j)) := (eg_neV (x := optV i) (y := optV j) ha hb (scal_opt i j)).eq (by rw [dec_f optV_inj i j])
theorem EG.opt {i : Int} (h : EG c Γ te aI i) : EG c Γ te aO (some i) := h
theorem EG.optN (h : EG c Γ te aN ()) : EG c Γ te aO none := h
theorem EG.int {i : Int} (h : EG c Γ te aO (some i)) : EG c Γ te aI i := h
/-- is None -/
def rIsN : R2 := fun x y H Q => y = .non ∧ Q (.bl (decide (x = .non))) H
def rNotN : R2 := fun x y H Q => y = .non ∧ Q (.bl (!decide (x = .non))) H
theorem eg_isV {x : V} (ha : EG c Γ ta aV x) : EG c Γ (tOp (fun x y H Q => y = .non ∧ Q (.bl (decide (x = .non))) H) ta (tC .non)) aB (decide (x = .non)) := eg_op ha (eg_cV (v := .non)) (rg_val fun H Q q => ⟨rfl, q⟩)
theorem eg_notV {x : V} (ha : EG c Γ ta aV x) : EG c Γ (tOp (fun x y H Q => y = .non ∧ Q (.bl (!decide (x = .non))) H) ta (tC .non)) aB (!decide (x = .non)) := eg_op ha (eg_cV (v := .non)) (rg_val fun H Q q => ⟨rfl, q⟩)
theorem eg_isO {o : Option Int} (ha : EG c Γ ta aO o) : EG c Γ (tOp (fun x y H Q => y = .non ∧ Q (.bl (decide (x = .non))) H) ta (tC .non)) aB o.isNone := (eg_isV (x := optV o) ha).eq (by cases o <;> rfl)
theorem eg_notO {o : Option Int} (ha : EG c Γ ta aO o) : EG c Γ (tOp (fun x y H Q => y = .non ∧ Q (.bl (!decide (x = .non))) H) ta (tC .non)) aB o.isSome := (eg_notV (x := optV o) ha).eq (by cases o <;> rfl)
/-- a thing that is an object is not None -/
def Obj' (τ : Ty α) : Prop := ∀ x F v, τ.R x F v → v ≠ .non
theorem eg_isT {o : Option α} (n : Obj' τ) (ha : EG c Γ ta (aOp τ) o) : EG c Γ (tOp (fun x y H Q => y = .non ∧ Q (.bl (decide (x = .non))) H) ta (tC .non)) aB o.isNone := fun σ F Ms H w Q q =>
  ha σ F Ms H w _ fun u F1 H1 s1 r1 => ⟨rfl, by
    have e : decide (u = .non) = o.isNone := by
      cases o with
      | none => exact decide_eq_true r1
      | some y => exact decide_eq_false (n y F1 u r1)
    rw [e]
    exact q _ F1 H1 s1 rfl⟩
theorem eg_notT {o : Option α} (n : Obj' τ) (ha : EG c Γ ta (aOp τ) o) : EG c Γ (tOp (fun x y H Q => y = .non ∧ Q (.bl (!decide (x = .non))) H) ta (tC .non)) aB o.isSome := fun σ F Ms H w Q q =>
  ha σ F Ms H w _ fun u F1 H1 s1 r1 => ⟨rfl, by
    have e : (!decide (u = .non)) = o.isSome := by
      cases o with
      | none => rw [decide_eq_true (show u = .non from r1)]; rfl
      | some y => rw [decide_eq_false (n y F1 u r1)]; rfl
    rw [e]
    exact q _ F1 H1 s1 rfl⟩
theorem EG.unSome (h : EG c Γ te (aOp τ) (some x)) : EG c Γ te τ x := h
theorem EG.ofSome (h : EG c Γ te τ x) : EG c Γ te (aOp τ) (some x) := h
theorem EG.ofNone (h : EG c Γ te aN ()) : EG c Γ te (aOp τ) none := h
theorem objI {α : Type} {f : α → V} (h : ∀ x, f x ≠ .non) : Obj' (aM f) := fun x F v r e => h x (by rw [← show v = f x from r]; exact e)
theorem objP : Obj' (aP τ θ) := fun x F v ⟨p, _, _, h, _⟩ e => by rw [h] at e; cases e
theorem objT3 : Obj' (aT τ θ ρ) := fun x F v ⟨p, _, _, _, h, _⟩ e => by rw [h] at e; cases e
theorem objL : Obj' (aL τ) := fun x F v ⟨p, _, h, _⟩ e => by rw [h] at e; cases e
/-- a < b < c -/
theorem eg_chain {p q : Int → Int → Bool} {i j k : Int} {tc : TE} (ha : EG c Γ ta aI i) (hb : EG c Γ tb aI j) (hc : EG c Γ tc aI k) : EG c Γ (tChain (rI0 fun i j => .bl (p i j)) (rI0 fun i j => .bl (q i j)) ta tb tc) aB (p i j && q j k) := fun σ F Ms H w Q k' =>
  ha σ F Ms H w _ fun u F1 H1 s1 r1 => hb σ F1 Ms H1 (w.step s1) _ fun v F2 H2 s2 r2 => by
    cases r1; cases r2
    refine ⟨i, j, rfl, rfl, p i j, rfl, ?_⟩
    cases hp : p i j with
    | false => exact iteF (k' _ F2 H2 (s1.trans s2) (by rw [hp]; rfl))
    | true =>
      refine iteT (hc σ F2 Ms H2 ((w.step s1).step s2) _ fun z F3 H3 s3 r3 => ?_)
      cases r3
      exact ⟨j, k, rfl, rfl, k' _ F3 H3 ((s1.trans s2).trans s3) (by rw [hp]; rfl)⟩
/-! ### tests -/
theorem et_test {b : Bool} (h : EG c Γ te aB b) : ET c Γ (tTest te) b := fun σ F Ms H w Q q => h σ F Ms H w _ fun v F1 H1 s r => ⟨b, r, q F1 H1 s⟩
theorem et_B {b : Bool} (h : EG c Γ te aB b) : ET c Γ (tB te) b := fun σ F Ms H w Q q => h σ F Ms H w _ fun v F1 H1 s r => ⟨b, r, q F1 H1 s⟩
theorem et_and {a b : Bool} (h1 : ET c Γ t a) (h2 : a = true → ET c Γ u b) : ET c Γ (tAnd t u) (a && b) := fun σ F Ms H w Q q => h1 σ F Ms H w _ fun F1 H1 s1 => by
  cases a with
  | true => exact iteT (h2 rfl σ F1 Ms H1 (w.step s1) Q fun F2 H2 s2 => q F2 H2 (s1.trans s2))
  | false => exact iteF (q F1 H1 s1)
theorem et_or {a b : Bool} (h1 : ET c Γ t a) (h2 : a = false → ET c Γ u b) : ET c Γ (tOr t u) (a || b) := fun σ F Ms H w Q q => h1 σ F Ms H w _ fun F1 H1 s1 => by
  cases a with
  | true => exact iteT (q F1 H1 s1)
  | false => exact iteF (h2 rfl σ F1 Ms H1 (w.step s1) Q fun F2 H2 s2 => q F2 H2 (s1.trans s2))
theorem et_and' {a b : Bool} (h1 : ET c Γ t a) (h2 : ET c Γ u b) : ET c Γ (tAnd t u) (a && b) := et_and h1 fun _ => h2
theorem et_or' {a b : Bool} (h1 : ET c Γ t a) (h2 : ET c Γ u b) : ET c Γ (tOr t u) (a || b) := et_or h1 fun _ => h2
theorem et_not {a : Bool} (h1 : ET c Γ t a) : ET c Γ (tNot t) (!a) := fun σ F Ms H w Q q => h1 σ F Ms H w _ fun F1 H1 s1 => q F1 H1 s1
theorem et_yes : ET c Γ tYes true := fun σ F Ms H w Q q => q F H (Stp.refl w.fx)
theorem eg_and {a b : Bool} (h1 : EG c Γ ta aB a) (h2 : a = true → EG c Γ tb aB b) : EG c Γ (tAndV ta tb) aB (a && b) := fun σ F Ms H w Q q => h1 σ F Ms H w _ fun v F1 H1 s1 r1 => ⟨a, r1, by
  cases a with
  | true => exact iteT (h2 rfl σ F1 Ms H1 (w.step s1) Q fun v F2 H2 s2 r2 => q v F2 H2 (s1.trans s2) r2)
  | false => exact iteF (q _ F1 H1 s1 rfl)⟩
theorem eg_or {a b : Bool} (h1 : EG c Γ ta aB a) (h2 : a = false → EG c Γ tb aB b) : EG c Γ (tOrV ta tb) aB (a || b) := fun σ F Ms H w Q q => h1 σ F Ms H w _ fun v F1 H1 s1 r1 => ⟨a, r1, by
  cases a with
  | true => exact iteT (q _ F1 H1 s1 rfl)
  | false => exact iteF (h2 rfl σ F1 Ms H1 (w.step s1) Q fun v F2 H2 s2 r2 => q v F2 H2 (s1.trans s2) r2)⟩
theorem eg_and' {a b : Bool} (h1 : EG c Γ ta aB a) (h2 : EG c Γ tb aB b) : EG c Γ (tAndV ta tb) aB (a && b) := eg_and h1 fun _ => h2
theorem eg_or' {a b : Bool} (h1 : EG c Γ ta aB a) (h2 : EG c Γ tb aB b) : EG c Γ (tOrV ta tb) aB (a || b) := eg_or h1 fun _ => h2
theorem eg_not {a : Bool} (h1 : EG c Γ ta aB a) : EG c Γ (tNotV ta) aB (!a) := fun σ F Ms H w Q q => h1 σ F Ms H w _ fun v F1 H1 s1 r1 => ⟨a, r1, q _ F1 H1 s1 rfl⟩
/-! ### lists -/
theorem EG.el (h : EG c Γ te (aL τ) l) : EL K c Γ te τ l := fun σ F Ms H w Q q => h σ F Ms H w _ fun v F1 H1 s ⟨p, us, e, r, i⟩ => by
  subst e
  exact q p us F1 H1 s (.inl (.inl (s.fh _ _ r))) i
theorem EG.ex (h : EG c Γ te (aL τ) l) : EX c Γ te τ l := fun σ F Ms H w Q q => h σ F Ms H w _ fun v F1 H1 s ⟨p, us, e, r, i⟩ => by
  subst e
  exact q p us F1 H1 s (s.fh _ _ r) i
theorem EG.scr {l : List Int} (h : EG c Γ te (aScr K) l) : EL K c Γ te aI l := fun σ F Ms H w Q q => h σ F Ms H w _ fun v F1 H1 s ⟨p, e, r⟩ => by
  subst e
  exact q p _ F1 H1 s (ex_l s.fh r) (its_tM.mpr rfl)
theorem EX.el (h : EX c Γ te τ l) : EL K c Γ te τ l := fun σ F Ms H w Q q => h σ F Ms H w _ fun a us F1 H1 s e i => q a us F1 H1 s (.inl (.inl e)) i
theorem ex_own {i : Nat} (h : Γ[i]? = some (.own (oL τ) l)) : EX c Γ (tVar i) τ l := fun σ F Ms H w Q q => by
  obtain ⟨v, h1, p, us, e, m, r⟩ := w.ok i _ h
  subst e
  exact ⟨_, h1, q p us F H (Stp.refl w.fx) (w.mx i _ _ (by rw [m]; exact one_at)) r⟩
theorem EN.ex (h : EN c Γ te (oL τ) l) : EX c Γ te τ l := EG.ex (EN.fz h)
theorem at_pr {S : V → α → Prop} {us : List V} {l : List α} {i : Int} {x : α} (h : Paired S us l) (e : atI l i = some x) : ∃ v, atI us i = some v ∧ S v x := by
  unfold atI at e ⊢
  rw [pr_len h]
  cases q : ixN l.length i with
  | none => rw [q] at e; cases e
  | some j =>
    rw [q] at e
    exact pr_get2 h e
theorem eg_ixL {l : List α} {i : Int} (ha : EL K c Γ ta τ l) (hb : EG c Γ tb aI i) (hi : atI l i = some x) : EG c Γ (tOp (rIxL K) ta tb) τ x := fun σ F Ms H w Q q =>
  ha σ F Ms H w _ fun a us F1 H1 s1 h1 i1 => hb σ F1 Ms H1 (w.step s1) _ fun v F2 H2 s2 r2 => by
    obtain ⟨v', e, r⟩ := at_pr (i1.up s2.f) hi
    exact ⟨a, us, i, v', rfl, r2, ex_l s2.h h1, e, q v' F2 H2 (s1.trans s2) r⟩
theorem eg_len {l : List α} (ha : EL K c Γ ta τ l) : EG c Γ (tCB (rLenS K) (tCons ta tNil)) aI (l.length : Int) := fun σ F Ms H w Q q =>
  ha σ F Ms H w _ fun a us F1 H1 s1 h1 i1 => ⟨a, us, rfl, .inl h1, by rw [pr_len i1]; exact q _ F1 H1 s1 rfl⟩
/-- tuples -/
theorem eg_p0 {x : α × β} (ha : EG c Γ ta (aP τ θ) x) : EG c Γ (tOp (rIxT K) ta (tC (.int 0))) τ x.1 := fun σ F Ms H w Q q =>
  ha σ F Ms H w _ fun v F1 H1 s1 ⟨p, u, w', e, h, r1, r2⟩ => ⟨p, _, 0, u, e, rfl, .inl (.inl (s1.fh _ _ h)), rfl, q u F1 H1 s1 r1⟩
theorem eg_p1 {x : α × β} (ha : EG c Γ ta (aP τ θ) x) : EG c Γ (tOp (rIxT K) ta (tC (.int 1))) θ x.2 := fun σ F Ms H w Q q =>
  ha σ F Ms H w _ fun v F1 H1 s1 ⟨p, u, w', e, h, r1, r2⟩ => ⟨p, _, 1, w', e, rfl, .inl (.inl (s1.fh _ _ h)), rfl, q w' F1 H1 s1 r2⟩
theorem eg_t0 {x : α × β × γ} (ha : EG c Γ ta (aT τ θ ρ) x) : EG c Γ (tOp (rIxT K) ta (tC (.int 0))) τ x.1 := fun σ F Ms H w Q q =>
  ha σ F Ms H w _ fun v F1 H1 s1 ⟨p, u, w', z, e, h, r1, r2, r3⟩ => ⟨p, _, 0, u, e, rfl, .inl (.inl (s1.fh _ _ h)), rfl, q u F1 H1 s1 r1⟩
theorem eg_t1 {x : α × β × γ} (ha : EG c Γ ta (aT τ θ ρ) x) : EG c Γ (tOp (rIxT K) ta (tC (.int 1))) θ x.2.1 := fun σ F Ms H w Q q =>
  ha σ F Ms H w _ fun v F1 H1 s1 ⟨p, u, w', z, e, h, r1, r2, r3⟩ => ⟨p, _, 1, w', e, rfl, .inl (.inl (s1.fh _ _ h)), rfl, q w' F1 H1 s1 r2⟩
theorem eg_t2 {x : α × β × γ} (ha : EG c Γ ta (aT τ θ ρ) x) : EG c Γ (tOp (rIxT K) ta (tC (.int 2))) ρ x.2.2 := fun σ F Ms H w Q q =>
  ha σ F Ms H w _ fun v F1 H1 s1 ⟨p, u, w', z, e, h, r1, r2, r3⟩ => ⟨p, _, 2, z, e, rfl, .inl (.inl (s1.fh _ _ h)), rfl, q z F1 H1 s1 r3⟩
theorem eg_tup2 (ha : EG c Γ ta τ x) (hb : EG c Γ tb θ y) : EG c Γ (tTup (tCons ta (tCons tb tNil))) (aP τ θ) (x, y) := fun σ F Ms H w Q q =>
  ha σ F Ms H w _ fun u F1 H1 s1 r1 => hb σ F1 Ms H1 (w.step s1) _ fun v F2 H2 s2 r2 => ⟨(by show 2 ≤ sizeLine; decide), fun p hp => by
    have s3 := Stp.new (o := .tup [u, v]) s2.fh hp
    exact q _ _ _ ((s1.trans s2).trans s3) ⟨p, u, v, rfl, upd_same, τ.up r1 (s2.f.trans s3.f), θ.up r2 s3.f⟩⟩
theorem eg_tup3 {tc : TE} (ha : EG c Γ ta τ x) (hb : EG c Γ tb θ y) (hc : EG c Γ tc ρ z) : EG c Γ (tTup (tCons ta (tCons tb (tCons tc tNil)))) (aT τ θ ρ) (x, y, z) := fun σ F Ms H w Q q =>
  ha σ F Ms H w _ fun u F1 H1 s1 r1 => hb σ F1 Ms H1 (w.step s1) _ fun v F2 H2 s2 r2 => hc σ F2 Ms H2 ((w.step s1).step s2) _ fun t F3 H3 s3 r3 => ⟨(by show 3 ≤ sizeLine; decide), fun p hp => by
    have s4 := Stp.new (o := .tup [u, v, t]) s3.fh hp
    exact q _ _ _ (((s1.trans s2).trans s3).trans s4) ⟨p, u, v, t, rfl, upd_same, τ.up r1 (s2.f.trans (s3.f.trans s4.f)), θ.up r2 (s3.f.trans s4.f), ρ.up r3 s4.f⟩⟩
theorem eas_nil : EAs c Γ tNil τ [] := fun σ F Ms H w Q q => q [] F H (Stp.refl w.fx) .nil
theorem eas_cons {tr : TA} {l : List α} (ha : EG c Γ ta τ x) (hr : EAs c Γ tr τ l) : EAs c Γ (tCons ta tr) τ (x :: l) := fun σ F Ms H w Q q =>
  ha σ F Ms H w _ fun u F1 H1 s1 r1 => hr σ F1 Ms H1 (w.step s1) _ fun vs F2 H2 s2 r2 => q _ F2 H2 (s1.trans s2) (.cons (τ.up r1 s2.f) r2)
theorem en_new {F H : Hp} (e : Ex F H) {p : Addr} (hp : H p = none) {o : HO} : Stp F H F (upd H p o) ∧ Ex (one p o) (upd H p o) ∧ ∀ a u, one p o a = some u → H a = none ∧ F a = none :=
  ⟨Stp.heap e (Ex.new hp), one_ex upd_same, fun a u h => by
    obtain ⟨rfl, _⟩ := one_some h
    exact ⟨hp, fresh_back e hp⟩⟩
theorem en_step {F H F1 H1 F2 M : Hp} (s : Stp F H F1 H1) (n : ∀ a o, M a = some o → H1 a = none ∧ F2 a = none) : ∀ a o, M a = some o → H a = none ∧ F2 a = none := fun a o h => ⟨fresh_back s.h (n a o h).1, (n a o h).2⟩
theorem en_lst {ta : TA} {l : List α} (ha : EAs c Γ ta τ l) (hl : l.length ≤ 100000) : EN c Γ (tLst ta) (oL τ) l := fun σ F Ms H w Q q =>
  ha σ F Ms H w _ fun vs F1 H1 s1 r1 => ⟨sz_of (by rw [pr_len r1]; exact hl), fun p hp => by
    obtain ⟨s2, m, n⟩ := en_new (o := .lst vs) s1.fh hp
    exact q _ F1 _ _ (s1.trans s2) m (en_step s1 n) ⟨p, vs, rfl, rfl, r1⟩⟩
theorem en_list {l : List α} (ha : EL K c Γ ta τ l) : EN c Γ (tCB (rListS K) (tCons ta tNil)) (oL τ) l := fun σ F Ms H w Q q =>
  ha σ F Ms H w _ fun a us F1 H1 s1 h1 i1 => ⟨a, us, rfl, .inl h1, fun p hp => by
    obtain ⟨s2, m, n⟩ := en_new (o := .lst us) s1.fh hp
    exact q _ F1 _ _ (s1.trans s2) m (en_step s1 n) ⟨p, us, rfl, rfl, i1⟩⟩
theorem en_cat {l m : List α} (ha : EX c Γ ta τ l) (hb : EX c Γ tb τ m) (hl : l.length + m.length ≤ 100000) : EN c Γ (tOp rCat ta tb) (oL τ) (l ++ m) := fun σ F Ms H w Q q =>
  ha σ F Ms H w _ fun a us F1 H1 s1 h1 i1 => hb σ F1 Ms H1 (w.step s1) _ fun b zs F2 H2 s2 h2 i2 => ⟨a, b, us, zs, rfl, rfl, s2.h _ _ h1, h2, sz_of (by rw [pr_len i1, pr_len i2]; exact hl), fun p hp => by
    obtain ⟨s3, m, n⟩ := en_new (o := .lst (us ++ zs)) s2.fh hp
    exact q _ F2 _ _ ((s1.trans s2).trans s3) m (en_step (s1.trans s2) n) ⟨p, _, rfl, rfl, pr_app (i1.up s2.f) i2⟩⟩
/-- a slice of a list -/
def cutL (l : List α) (lo hi : Option Int) : List α := (l.drop (HT.sIx l.length 0 lo)).take (HT.sIx l.length l.length hi - HT.sIx l.length 0 lo)
def EO (c : Cw) (Γ : List Spec) (to : TO) (o : Option Int) : Prop := ∀ σ F Ms H, Wd c Γ σ F Ms H → ∀ Q : Option Int → Hp → Prop, (∀ F' H', Stp F H F' H' → Q o H') → to σ H Q
theorem eo_none : EO c Γ tNoPart none := fun σ F Ms H w Q q => q F H (Stp.refl w.fx)
theorem eo_some {i : Int} (h : EG c Γ te aI i) : EO c Γ (tPart te) (some i) := fun σ F Ms H w Q q => h σ F Ms H w _ fun v F1 H1 s r => ⟨i, r, q F1 H1 s⟩
theorem en_slice {l : List α} {lo hi : Option Int} {to tp : TO} (ha : EL K c Γ ta τ l) (h1 : EO c Γ to lo) (h2 : EO c Γ tp hi) : EN c Γ (tSl (rSlL K) ta to tp) (oL τ) (cutL l lo hi) := fun σ F Ms H w Q q =>
  ha σ F Ms H w _ fun a us F1 H1 s1 g1 i1 => h1 σ F1 Ms H1 (w.step s1) _ fun F2 H2 s2 => h2 σ F2 Ms H2 ((w.step s1).step s2) _ fun F3 H3 s3 => ⟨a, us, rfl, ex_l (s2.trans s3).h g1, fun p hp => by
    obtain ⟨s4, m, n⟩ := en_new (o := .lst (cutV us lo hi)) s3.fh hp
    refine q _ F3 _ _ ((s1.trans (s2.trans s3)).trans s4) m (en_step (s1.trans (s2.trans s3)) n) ⟨p, _, rfl, rfl, ?_⟩
    unfold cutV cutL
    rw [pr_len i1]
    exact pr_take _ (pr_drop _ (i1.up (s2.trans s3).f))⟩
/-- a comprehension over a list -/
theorem filter_snoc {l : List β} {i : Nat} {b : β} (f : β → Bool) (g : β → α) (h : l[i]? = some b) : ((l.take (i + 1)).filter f).map g = ((l.take i).filter f).map g ++ (if f b = true then [g b] else []) := by
  have e : l.take (i + 1) = l.take i ++ [b] := by rw [List.take_add_one, h]; rfl
  rw [e, List.filter_append, List.map_append]
  congr 1
  by_cases e : f b = true
  · rw [if_pos e, List.filter_cons_of_pos e]; rfl
  · rw [if_neg e, List.filter_cons_of_neg e]; rfl
theorem filter_rng {n : Nat} (f : Nat → Bool) (g : Nat → α) : ((List.range (n + 1)).filter f).map g = ((List.range n).filter f).map g ++ (if f n = true then [g n] else []) := by
  rw [List.range_succ, List.filter_append, List.map_append]
  congr 1
  by_cases e : f n = true
  · rw [if_pos e, List.filter_cons_of_pos e]; rfl
  · rw [if_neg e, List.filter_cons_of_neg e]; rfl
/-- what a comprehension's loop carries: its list at D -/
structure Lw (τ : Ty α) (F1 H1 : Hp) (D : Addr) (m : List α) (F H : Hp) : Prop where
  st : Stp F1 H1 F H
  fd : F D = none
  it : ∃ us, H D = some (.lst us) ∧ Its τ F us m
theorem Lw.start {F H : Hp} (e : Ex F H) {D : Addr} (hD : H D = none) : Lw τ F H D [] F (upd H D (.lst [])) := ⟨Stp.heap e (Ex.new hD), fresh_back e hD, [], upd_same, .nil⟩
theorem Lw.step {F1 H1 F H F' H' : Hp} {D : Addr} {m : List α} (l : Lw τ F1 H1 D m F H) (s : Stp F H F' H') : Lw τ F1 H1 D m F' H' where
  st := l.st.trans s
  fd := none_of fun o h => by
    obtain ⟨us, h1, _⟩ := l.it
    rw [s.n D o h l.fd] at h1; cases h1
  it := by
    obtain ⟨us, h1, h2⟩ := l.it
    exact ⟨us, s.h _ _ h1, h2.up s.f⟩
theorem Lw.app {F1 H1 F H : Hp} {D : Addr} {m : List α} {us : List V} {v : V} {x : α} (l : Lw τ F1 H1 D m F H) (hD : H1 D = none) (h1 : H D = some (.lst us)) (h2 : Its τ F us m) (r : τ.R x F v) : Lw τ F1 H1 D (m ++ [x]) F (upd H D (.lst (us ++ [v]))) where
  st := ⟨l.st.f, fun a o e => by rw [upd_ne (ne_of_none e hD)]; exact l.st.h _ _ e, fun a o e => by rw [upd_ne (ne_of_none e l.fd)]; exact l.st.fh _ _ e, l.st.n⟩
  fd := l.fd
  it := ⟨_, upd_same, pr_snoc h2 r⟩
theorem wipe1 {σ : L2.St} {j : Nat} {x : V} : wipe ((wipe σ [j]).set j (some x)) [j] = wipe σ [j] := by
  show ((σ.set j none).set j (some x)).set j none = σ.set j none
  rw [List.set_set, List.set_set]
theorem wipe_set {σ : L2.St} {j : Nat} {x : V} : (wipe σ [j]).set j (some x) = σ.set j (some x) := by
  show (σ.set j none).set j (some x) = σ.set j (some x)
  rw [List.set_set]
theorem lw_turn {F1 H1 F H : Hp} {D : Addr} {m : List α} {σ : L2.St} {Ms : Nat → Hp} {j : Nat} {v : V} {b : β} {fb : Bool} {gb : α} {Pn : Hp → Prop} (w : Wd c Γ σ F1 Ms H1) (l : Lw τ F1 H1 D m F H) (hD : H1 D = none) (hm : m.length < 100000) (r : θ.R b F v)
    (ht : ET c (Γ.set j (.is θ b)) t fb) (he : fb = true → EG c (Γ.set j (.is θ b)) te τ gb)
    (hn : ∀ F' H', Lw τ F1 H1 D (m ++ (if fb = true then [gb] else [])) F' H' → Pn H') :
    t ((wipe σ [j]).set j (some v)) H fun b' H3 => if b' = true then te ((wipe σ [j]).set j (some v)) H3 fun y H4 => ∃ acc, H4 D = some (.lst acc) ∧ acc.length < sizeLine ∧ Pn (upd H4 D (.lst (acc ++ [y]))) else Pn H3 := by
  rw [wipe_set]
  have w1 : Wd c (Γ.set j (.is θ b)) (σ.set j (some v)) F Ms H := (w.step l.st).set j r
  refine ht _ F Ms H w1 _ fun F2 H2 s2 => ?_
  have l2 := l.step s2
  cases fb with
  | false => exact iteF (hn F2 H2 (by simpa using l2))
  | true =>
    refine iteT (he rfl _ F2 Ms H2 (w1.step s2) _ fun y F3 H3 s3 r3 => ?_)
    have l3 := l2.step s3
    obtain ⟨us, h1, h2⟩ := l3.it
    exact ⟨us, h1, sz_lt (by rw [pr_len h2]; exact hm), hn F3 _ (by simpa using l3.app hD h1 h2 r3)⟩
theorem Lw.done {F1 H1 F H F0 H0 : Hp} {D : Addr} {m : List α} {Q : VK} (l : Lw τ F1 H1 D m F H) (s : Stp F0 H0 F1 H1) (hD : H1 D = none)
    (q : ∀ v F' M H', Stp F0 H0 F' H' → Ex M H' → (∀ a o, M a = some o → H0 a = none ∧ F' a = none) → (oL τ).S m F' v M → Q v H') : Q (.ref D) H := by
  obtain ⟨us, h1, h2⟩ := l.it
  refine q _ F (one D (.lst us)) H (s.trans l.st) (one_ex h1) (fun a o h => ?_) ⟨D, us, rfl, rfl, h2⟩
  obtain ⟨rfl, _⟩ := one_some h
  exact ⟨fresh_back s.h hD, l.fd⟩
theorem en_lc {l : List β} {j : Nat} (f : β → Bool) (g : β → α) (hl : EL K c Γ tl θ l) (hz : l.length < 100000) (ht : ∀ b ∈ l, ET c (Γ.set j (.is θ b)) t (f b)) (he : ∀ b ∈ l, f b = true → EG c (Γ.set j (.is θ b)) te τ (g b)) :
    EN c Γ (tLc (iList K tl) (gName j) t te [j]) (oL τ) ((l.filter f).map g) := fun σ F Ms H w Q q =>
  hl σ F Ms H w _ fun a us F1 H1 s1 h1 i1 => ⟨a, rfl, ⟨_, h1⟩, fun D hD => by
    refine lc_list (K := K) (a := a) (xs := us) (fun i H' => ∃ F', Lw τ F1 H1 D (((l.take i).filter f).map g) F' H') ⟨F1, Lw.start s1.fh hD⟩ (fun i H' _ ⟨F', lw⟩ => ex_l lw.st.h h1) ?_ ?_
    · rintro i v H' hv ⟨F', lw⟩
      obtain ⟨b, hb, hr⟩ := pr_get i1 hv
      have hi : i < l.length := (List.getElem?_eq_some_iff.mp hb).1
      refine ⟨wipe1, lw_turn (w.step s1) lw hD ?_ (θ.up hr lw.st.f) (ht b (List.mem_of_getElem? hb)) (he b (List.mem_of_getElem? hb)) fun F2 H2 l2 => ⟨F2, by rw [filter_snoc f g hb]; exact l2⟩⟩
      rw [List.length_map]
      exact Nat.lt_of_le_of_lt (List.length_filter_le _ _) (by rw [List.length_take]; omega)
    · rintro H' ⟨F', lw⟩
      rw [pr_len i1, List.take_length] at lw
      exact lw.done s1 hD q⟩
theorem en_lcR {ta : TE} {n : Int} {j : Nat} (f : Nat → Bool) (g : Nat → α) (hn : EG c Γ ta aI n) (hz : 0 ≤ n ∧ n < 100000) (ht : ∀ i : Nat, (i : Int) < n → ET c (Γ.set j (.is aI (i : Int))) t (f i)) (he : ∀ i : Nat, (i : Int) < n → f i = true → EG c (Γ.set j (.is aI (i : Int))) te τ (g i)) :
    EN c Γ (tLc (iRng1 (tCons ta tNil)) (gName j) t te [j]) (oL τ) (((List.range n.toNat).filter f).map g) := fun σ F Ms H w Q q =>
  hn σ F Ms H w _ fun v F1 H1 s1 r1 => ⟨n, by rw [show v = V.int n from r1], by omega, by omega, fun D hD => by
    refine lc_range (lo := 0) (n := n.toNat) (fun i H' => ∃ F', Lw τ F1 H1 D (((List.range i).filter f).map g) F' H') ⟨F1, Lw.start s1.fh hD⟩ ?_ ?_
    · rintro i H' hi ⟨F', lw⟩
      have ez : V.int (0 + (i : Int)) = V.int (i : Int) := by rw [Int.zero_add]
      rw [ez]
      refine ⟨wipe1, lw_turn (θ := aI) (b := (i : Int)) (w.step s1) lw hD ?_ rfl (ht i (by omega)) (he i (by omega)) fun F2 H2 l2 => ⟨F2, by rw [filter_rng f g]; exact l2⟩⟩
      rw [List.length_map]
      exact Nat.lt_of_le_of_lt (List.length_filter_le _ _) (by rw [List.length_range]; omega)
    · rintro H' ⟨F', lw⟩
      exact lw.done s1 hD q⟩
theorem en_lcR2 {ta tb : TE} {a n : Int} {j : Nat} (f : Nat → Bool) (g : Nat → α) (ha : EG c Γ ta aI a) (hn : EG c Γ tb aI n) (hz : 0 ≤ a ∧ a < 100000 ∧ 0 ≤ n ∧ n < 100000) (ht : ∀ i : Nat, a + (i : Int) < n → ET c (Γ.set j (.is aI (a + (i : Int)))) t (f i))
    (he : ∀ i : Nat, a + (i : Int) < n → f i = true → EG c (Γ.set j (.is aI (a + (i : Int)))) te τ (g i)) :
    EN c Γ (tLc (iRng2 (tCons ta (tCons tb tNil))) (gName j) t te [j]) (oL τ) (((List.range (n - a).toNat).filter f).map g) := fun σ F Ms H w Q q =>
  ha σ F Ms H w _ fun v F1 H1 s1 r1 => hn σ F1 Ms H1 (w.step s1) _ fun v2 F2 H2 s2 r2 => ⟨a, n, by rw [show v = V.int a from r1, show v2 = V.int n from r2], by omega, fun D hD => by
    refine lc_range (lo := a) (n := (n - a).toNat) (fun i H' => ∃ F', Lw τ F2 H2 D (((List.range i).filter f).map g) F' H') ⟨F2, Lw.start s2.fh hD⟩ ?_ ?_
    · rintro i H' hi ⟨F', lw⟩
      refine ⟨wipe1, lw_turn (θ := aI) (b := a + (i : Int)) (w.step (s1.trans s2)) lw hD ?_ rfl (ht i (by omega)) (he i (by omega)) fun F2 H2 l2 => ⟨F2, by rw [filter_rng f g]; exact l2⟩⟩
      rw [List.length_map]
      exact Nat.lt_of_le_of_lt (List.length_filter_le _ _) (by rw [List.length_range]; omega)
    · rintro H' ⟨F', lw⟩
      exact lw.done (s1.trans s2) hD q⟩
/-! ### built-ins over lists -/
theorem eg_sum {l : List Int} (ha : EL K c Γ ta aI l) : EG c Γ (tCB (rSum K) (tCons ta tNil)) aI l.sum := fun σ F Ms H w Q q =>
  ha σ F Ms H w _ fun a us F1 H1 s1 h1 i1 => ⟨a, l, rfl, by rw [← its_tM.mp i1]; exact h1, q _ F1 H1 s1 rfl⟩
theorem eg_all {l : List Bool} (ha : EL K c Γ ta aB l) : EG c Γ (tCB (rAll K) (tCons ta tNil)) aB (l.all id) := fun σ F Ms H w Q q =>
  ha σ F Ms H w _ fun a us F1 H1 s1 h1 i1 => ⟨a, l, rfl, by rw [← its_tM.mp i1]; exact h1, q _ F1 H1 s1 rfl⟩
theorem eg_min {l : List Int} {m : Int} (ha : EL K c Γ ta aI l) (hm : m ∈ l) (hl : ∀ x ∈ l, m ≤ x) : EG c Γ (tCB (rMin K) (tCons ta tNil)) aI m := fun σ F Ms H w Q q =>
  ha σ F Ms H w _ fun a us F1 H1 s1 h1 i1 => ⟨a, l, rfl, by rw [← its_tM.mp i1]; exact h1, List.length_pos_of_mem hm, fun k hk hk2 => by
    have e : k = m := Int.le_antisymm (hk2 m hm) (hl k hk)
    rw [e]
    exact q _ F1 H1 s1 rfl⟩
theorem eg_max2 {i j : Int} (ha : EG c Γ ta aI i) (hb : EG c Γ tb aI j) : EG c Γ (tCB rMax2 (tCons ta (tCons tb tNil))) aI (if j > i then j else i) := fun σ F Ms H w Q q =>
  ha σ F Ms H w _ fun u F1 H1 s1 r1 => hb σ F1 Ms H1 (w.step s1) _ fun v F2 H2 s2 r2 => ⟨i, j, by rw [show u = V.int i from r1, show v = V.int j from r2], q _ F2 H2 (s1.trans s2) rfl⟩
/-- x in l, scalars -/
theorem in_int {i : Int} {l : List Int} : inV (.int i) (l.map V.int) = decide (i ∈ l) := by
  unfold inV
  induction l with
  | nil => rfl
  | cons j r ih =>
    rw [List.map_cons, List.any_cons, ih]
    show (decide (j = i) || _) = _
    by_cases e : j = i
    · simp [e]
    · have e' : ¬ i = j := fun q => e q.symm
      simp [e, e']
theorem flat_int {l : List Int} : (l.map V.int).all flatV = true := by
  rw [List.all_map]
  exact List.all_eq_true.mpr fun _ _ => rfl
theorem eg_in {i : Int} {l : List Int} (ha : EG c Γ ta aI i) (hb : EL K c Γ tb aI l) : EG c Γ (tOp (rIn K false) ta tb) aB (decide (i ∈ l)) := fun σ F Ms H w Q q =>
  ha σ F Ms H w _ fun u F1 H1 s1 r1 => hb σ F1 Ms H1 (w.step s1) _ fun b us F2 H2 s2 h2 i2 => ⟨b, us, rfl, .inl h2, by rw [show u = V.int i from r1]; rfl, by rw [its_tM.mp i2]; exact flat_int, by
    rw [show u = V.int i from r1, its_tM.mp i2, in_int]
    exact q _ F2 H2 (s1.trans s2) rfl⟩
theorem eg_nin {i : Int} {l : List Int} (ha : EG c Γ ta aI i) (hb : EL K c Γ tb aI l) : EG c Γ (tOp (rIn K true) ta tb) aB (!decide (i ∈ l)) := fun σ F Ms H w Q q =>
  ha σ F Ms H w _ fun u F1 H1 s1 r1 => hb σ F1 Ms H1 (w.step s1) _ fun b us F2 H2 s2 h2 i2 => ⟨b, us, rfl, .inl h2, by rw [show u = V.int i from r1]; rfl, by rw [its_tM.mp i2]; exact flat_int, by
    rw [show u = V.int i from r1, its_tM.mp i2, in_int]
    exact q _ F2 H2 (s1.trans s2) rfl⟩
/-- list(range(a, b)) -/
def rgI (a b : Int) : List Int := (List.range (b - a).toNat).map fun (i : Nat) => a + (i : Int)
theorem en_rg {a b : Int} (ha : EG c Γ ta aI a) (hb : EG c Γ tb aI b) (ok : RgOk a b) : EN c Γ (tLstRg (tRg2 ta tb)) (oL aI) (rgI a b) := fun σ F Ms H w Q q =>
  ha σ F Ms H w _ fun u F1 H1 s1 r1 => hb σ F1 Ms H1 (w.step s1) _ fun v F2 H2 s2 r2 => ⟨a, b, r1, r2, ok, fun p hp => by
    obtain ⟨s3, m, n⟩ := en_new (o := .lst (rgV a b)) s2.fh hp
    refine q _ F2 _ _ ((s1.trans s2).trans s3) m (en_step (s1.trans s2) n) ⟨p, _, rfl, rfl, its_tM.mpr ?_⟩
    unfold rgV rgI
    rw [List.map_map]; rfl⟩
/-- sorted(l), whole numbers -/
theorem en_sortI {l l' : List Int} (ha : EL K c Γ ta aI l) (hp : l'.Perm l) (hs : l'.Pairwise (· ≤ ·)) : EN c Γ (tCB (rSortedI K) (tCons ta tNil)) (oL aI) l' := fun σ F Ms H w Q q =>
  ha σ F Ms H w _ fun a us F1 H1 s1 h1 i1 => ⟨a, l, rfl, by rw [← its_tM.mp i1]; exact h1, fun ns' p hp' hs' hn => by
    have e : ns' = l' := List.Perm.eq_of_pairwise (le := fun a b : Int => a ≤ b) (fun a b _ _ h1 h2 => Int.le_antisymm h1 h2) hs' hs (hp'.trans hp.symm)
    subst e
    obtain ⟨s2, m, n⟩ := en_new (o := .lst (ns'.map V.int)) s1.fh hn
    exact q _ F1 _ _ (s1.trans s2) m (en_step s1 n) ⟨p, _, rfl, rfl, its_tM.mpr rfl⟩⟩
/-! ### dicts -/
def lk (l : List (Int × α)) (k : Int) : Option α := (l.find? fun e => decide (e.1 = k)).map (·.2)
def putI (l : List (Int × α)) (k : Int) (x : α) : List (Int × α) := if (l.any fun e => decide (e.1 = k)) = true then l.map (fun e => if e.1 = k then (e.1, x) else e) else l ++ [(k, x)]
theorem ents_lk {F : Hp} : ∀ {us : List (Key × V)} {l : List (Int × α)} {k : Int}, Ents τ F us l → match lk l k with
    | none => valV us (.inl k) = none
    | some x => ∃ v, valV us (.inl k) = some v ∧ τ.R x F v
  | _, _, k, .nil => rfl
  | u :: us, e :: l, k, .cons r t => by
    have ih := ents_lk (k := k) t
    by_cases h : e.1 = k
    · have e1 : lk (e :: l) k = some e.2 := by unfold lk; rw [List.find?_cons_of_pos (by simpa using h)]; rfl
      rw [e1]
      exact ⟨u.2, valV_pos (by rw [r.1, h]), r.2⟩
    · have e1 : lk (e :: l) k = lk l k := by unfold lk; rw [List.find?_cons_of_neg (by simpa using h)]
      have e2 : valV (u :: us) (.inl k) = valV us (.inl k) := valV_neg fun q => h (by rw [r.1] at q; exact Sum.inl.inj q)
      rw [e1, e2]
      exact ih
theorem EG.edk {l : List (Int × α)} (h : EG c Γ te (aDK τ) l) : EDK c Γ te τ l := fun σ F Ms H w Q q => h σ F Ms H w _ fun v F1 H1 s ⟨p, us, e, r, i⟩ => by
  subst e
  exact q p us F1 H1 s (.inl (s.fh _ _ r)) i
theorem edk_own {i : Nat} {l : List (Int × α)} (h : Γ[i]? = some (.own (oDK τ) l)) : EDK c Γ (tVar i) τ l := fun σ F Ms H w Q q => by
  obtain ⟨v, h1, p, us, e, m, r⟩ := w.ok i _ h
  subst e
  exact ⟨_, h1, q p us F H (Stp.refl w.fx) (.inl (w.mx i _ _ (by rw [m]; exact one_at))) r⟩
theorem eg_dgetK {l : List (Int × α)} {k : Int} (hd : EDK c Γ td τ l) (hk : EG c Γ te aI k) (hx : lk l k = some x) : EG c Γ (tDGet td te) τ x := fun σ F Ms H w Q q =>
  hd σ F Ms H w _ fun a us F1 H1 s1 h1 i1 => hk σ F1 Ms H1 (w.step s1) _ fun v F2 H2 s2 r2 => by
    have z := ents_lk (k := k) (i1.up s2.f)
    rw [hx] at z
    obtain ⟨v', e, r⟩ := z
    refine ⟨a, v', rfl, ?_, q v' F2 H2 (s1.trans s2) r⟩
    rw [show v = V.int k from r2]
    exact .inl ⟨us, .inl k, ex_rd s2.h h1, rfl, e.symm⟩
/-- dicts whose keys are pairs -/
def getP (l : Kvs) (k : KP) : Option Int := (l.find? fun e => decide (e.1 = k)).map (·.2)
def putP (l : Kvs) (k : KP) (c : Int) : Kvs := if (l.any fun e => decide (e.1 = k)) = true then l.map (fun e => if e.1 = k then (e.1, c) else e) else l ++ [(k, c)]
def dropP (l : Kvs) (k : KP) : Kvs := l.filter fun e => decide (e.1 ≠ k)
theorem keyP_inj {a b : KP} : keyP a = keyP b ↔ a = b := by
  constructor
  · intro h
    have h1 := (List.cons.inj h).1
    have h2 := (List.cons.inj (List.cons.inj h).2).1
    exact Prod.ext (Sum.inl.inj h1) (Sum.inl.inj h2)
  · rintro rfl; rfl
theorem dec_keyP (a b : KP) : decide (keyP a = keyP b) = decide (a = b) := decide_eq_decide.mpr keyP_inj
theorem bk_any (l : Kvs) (k : KP) : ((bk l).any fun e => decide (e.1 = keyP k)) = l.any fun e => decide (e.1 = k) := by
  unfold bk
  rw [List.any_map]
  congr 1
  funext e
  exact dec_keyP e.1 k
theorem valV_bk : ∀ (l : Kvs) (k : KP), valV (bk l) (keyP k) = (getP l k).map V.int
  | [], _ => rfl
  | e :: r, k => by
    by_cases h : e.1 = k
    · have h1 : valV (bk (e :: r)) (keyP k) = some (V.int e.2) := valV_pos (p := (keyP e.1, V.int e.2)) (congrArg keyP h)
      rw [h1]
      unfold getP
      rw [List.find?_cons_of_pos (by simpa using h)]; rfl
    · have h1 : valV (bk (e :: r)) (keyP k) = valV (bk r) (keyP k) := valV_neg (p := (keyP e.1, V.int e.2)) fun q => h (keyP_inj.mp q)
      rw [h1, valV_bk r k]
      unfold getP
      rw [List.find?_cons_of_neg (by simpa using h)]
theorem putK_bk (l : Kvs) (k : KP) (c : Int) : putK (bk l) (keyP k) (.int c) = bk (putP l k c) := by
  unfold putK putP
  rw [bk_any]
  split
  · unfold bk
    rw [List.map_map, List.map_map]
    refine List.map_congr_left fun e _ => ?_
    show (if keyP e.1 = keyP k then _ else _) = _
    by_cases h : e.1 = k
    · rw [if_pos (congrArg keyP h)]
      show _ = (keyP (if e.1 = k then (e.1, c) else e).1, V.int (if e.1 = k then (e.1, c) else e).2)
      rw [if_pos h]
    · rw [if_neg fun q => h (keyP_inj.mp q)]
      show _ = (keyP (if e.1 = k then (e.1, c) else e).1, V.int (if e.1 = k then (e.1, c) else e).2)
      rw [if_neg h]
  · unfold bk
    rw [List.map_append]; rfl
theorem dropK_bk (l : Kvs) (k : KP) : dropK (bk l) (keyP k) = bk (dropP l k) := by
  unfold dropK dropP bk
  rw [List.filter_map]
  congr 1
  refine List.filter_congr fun e _ => ?_
  show decide (keyP e.1 ≠ keyP k) = decide (e.1 ≠ k)
  exact decide_eq_decide.mpr (not_congr keyP_inj)
theorem bk_len (l : Kvs) : (bk l).length = l.length := List.length_map _
theorem EG.edt {l : Kvs} (h : EG c Γ te aDT l) : EDT c Γ te l := fun σ F Ms H w Q q => h σ F Ms H w _ fun v F1 H1 s ⟨p, e, r⟩ => by
  subst e
  exact q p F1 H1 s (s.fh _ _ r)
theorem edt_own {i : Nat} {l : Kvs} (h : Γ[i]? = some (.own oDT l)) : EDT c Γ (tVar i) l := fun σ F Ms H w Q q => by
  obtain ⟨v, h1, p, e, m⟩ := w.ok i _ h
  subst e
  exact ⟨_, h1, q p F H (Stp.refl w.fx) (w.mx i _ _ (by rw [m]; exact one_at))⟩
theorem ekp_tup {i j : Int} (ha : EG c Γ ta aI i) (hb : EG c Γ tb aI j) : EKP c Γ (tTup (tCons ta (tCons tb tNil))) (i, j) := fun σ F Ms H w Q q => eg_tup2 ha hb σ F Ms H w _ fun v F1 H1 s ⟨p, u, w', e, h, r1, r2⟩ => by
  subst e
  cases (show u = V.int i from r1); cases (show w' = V.int j from r2)
  exact q p F1 H1 s (s.fh _ _ h)
theorem ekp_of {k : KP} (ha : EG c Γ te (aP aI aI) k) : EKP c Γ te k := fun σ F Ms H w Q q => ha σ F Ms H w _ fun v F1 H1 s ⟨p, u, w', e, h, r1, r2⟩ => by
  subst e
  cases (show u = V.int k.1 from r1); cases (show w' = V.int k.2 from r2)
  exact q p F1 H1 s (s.fh _ _ h)
/-- a pair of which the first may be None -/
theorem dget_bk {H : Hp} {a b : Addr} {l : Kvs} {k : KP} (h : H a = some (.dT (bk l))) (hb : H b = some (.tup [.int k.1, .int k.2])) : DGet H a (.ref b) ((getP l k).map V.int) := by
  have := DGet.t (k := keyP k) h hb
  rw [valV_bk] at this
  exact this
theorem eg_dgetT {l : Kvs} {k : KP} {i : Int} (hd : EDT c Γ td l) (hk : EKP c Γ te k) (hx : getP l k = some i) : EG c Γ (tDGet td te) aI i := fun σ F Ms H w Q q =>
  hd σ F Ms H w _ fun a F1 H1 s1 h1 => hk σ F1 Ms H1 (w.step s1) _ fun b F2 H2 s2 h2 => ⟨a, .int i, rfl, by
    have := dget_bk (s2.h _ _ h1) h2
    rw [hx] at this
    exact this, q _ F2 H2 (s1.trans s2) rfl⟩
theorem eg_get1 {l : Kvs} {k : KP} (hd : EDT c Γ td l) (hk : EKP c Γ te k) : EG c Γ (tDGet1 td te) aO (getP l k) := fun σ F Ms H w Q q =>
  hd σ F Ms H w _ fun a F1 H1 s1 h1 => ⟨a, rfl, .inr ⟨_, .inl h1⟩, hk σ F1 Ms H1 (w.step s1) _ fun b F2 H2 s2 h2 => ⟨_, dget_bk (s2.h _ _ h1) h2, q _ F2 H2 (s1.trans s2) (by cases getP l k <;> rfl)⟩⟩
theorem eg_din {l : Kvs} {k : KP} (hk : EKP c Γ te k) (hd : EDT c Γ td l) : EG c Γ (tDIn te td) aB (getP l k).isSome := fun σ F Ms H w Q q =>
  hk σ F Ms H w _ fun b F1 H1 s1 h1 => hd σ F1 Ms H1 (w.step s1) _ fun a F2 H2 s2 h2 => ⟨a, _, rfl, dget_bk h2 (s2.h _ _ h1), by rw [Option.isSome_map]; exact q _ F2 H2 (s1.trans s2) rfl⟩
theorem eg_dnin {l : Kvs} {k : KP} (hk : EKP c Γ te k) (hd : EDT c Γ td l) : EG c Γ (tDNotIn te td) aB (!(getP l k).isSome) := fun σ F Ms H w Q q =>
  hk σ F Ms H w _ fun b F1 H1 s1 h1 => hd σ F1 Ms H1 (w.step s1) _ fun a F2 H2 s2 h2 => ⟨a, _, rfl, dget_bk h2 (s2.h _ _ h1), by rw [Option.isSome_map]; exact q _ F2 H2 (s1.trans s2) rfl⟩
theorem eg_lenT {l : Kvs} (hd : EDT c Γ td l) : EG c Γ (tCB rLenT (tCons td tNil)) aI (l.length : Int) := fun σ F Ms H w Q q =>
  hd σ F Ms H w _ fun a F1 H1 s1 h1 => ⟨a, bk l, rfl, h1, by rw [bk_len]; exact q _ F1 H1 s1 rfl⟩
theorem en_dK : EN c Γ tDNewK (oDK τ) [] := fun σ F Ms H w Q q p hp => by
  obtain ⟨s2, m, n⟩ := en_new (o := .dK []) w.fx hp
  exact q _ F _ _ s2 m n ⟨p, [], rfl, rfl, .nil⟩
theorem en_dT : EN c Γ tDNewT oDT [] := fun σ F Ms H w Q q p hp => by
  obtain ⟨s2, m, n⟩ := en_new (o := .dT []) w.fx hp
  exact q _ F _ _ s2 m n ⟨p, rfl, rfl⟩
/-! ### books -/
theorem eb_see {i : Nat} {b : Bk} (h : Γ[i]? = some (.see (aBk C) b)) : EB C c Γ (tVar i) b := fun σ F Ms H w Q q => by
  obtain ⟨v, B, h1, h2, p, d, dx, e, hb⟩ := w.ok i _ h
  subst e
  exact ⟨_, h1, q p d dx F H (Stp.refl w.fx) (hb.up (h2.trans w.fr))⟩
theorem eb_own {i : Nat} {b : Bk} (h : Γ[i]? = some (.own (oBk C) b)) : EB C c Γ (tVar i) b := fun σ F Ms H w Q q => by
  obtain ⟨v, h1, p, d, dx, e, n, m⟩ := w.ok i _ h
  subst e
  exact ⟨_, h1, q p d dx F H (Stp.refl w.fx) ((bkH_at n).up (m ▸ w.mx i))⟩
theorem eb_of {b : Bk} (h : EG c Γ te (aBk C) b) : EB C c Γ te b := fun σ F Ms H w Q q => h σ F Ms H w _ fun v F1 H1 s ⟨p, d, dx, e, hb⟩ => by
  subst e
  exact q p d dx F1 H1 s (hb.up s.fh)
theorem eb_new {b : Bk} (h : EN c Γ te (oBk C) b) : EB C c Γ te b := eb_of (EN.fz h)
/-! ### arguments -/
theorem ea_nil : EA c Γ tNil [] := fun σ F Ms H w Q q => q [] F H (Stp.refl w.fx) trivial
theorem ea_is {tr : TA} {Ss : List Spec} (ha : EG c Γ ta τ x) (hr : EA c Γ tr Ss) : EA c Γ (tCons ta tr) (.is τ x :: Ss) := fun σ F Ms H w Q q =>
  ha σ F Ms H w _ fun u F1 H1 s1 r1 => hr σ F1 Ms H1 (w.step s1) _ fun vs F2 H2 s2 r2 => q _ F2 H2 (s1.trans s2) ⟨⟨u, rfl, τ.up r1 s2.f⟩, r2⟩
theorem ea_see {tr : TA} {Ss : List Spec} {b : Bk} (ha : EB C c Γ ta b) (hr : EA c Γ tr Ss) : EA c Γ (tCons ta tr) (.see (aBk C) b :: Ss) := fun σ F Ms H w Q q =>
  ha σ F Ms H w _ fun p d dx F1 H1 s1 r1 => hr σ F1 Ms H1 (w.step s1) _ fun vs F2 H2 s2 r2 => q _ F2 H2 (s1.trans s2) ⟨⟨_, bkH C p d dx b, rfl, bkH_ex (r1.up s2.h), p, d, dx, rfl, bkH_at r1.ne⟩, r2⟩
/-- a thing of any kind that is only looked at -/
theorem ea_look {tr : TA} {Ss : List Spec} (ha : EG c Γ ta τ x) (hr : EA c Γ tr Ss) : EA c Γ (tCons ta tr) (.see τ x :: Ss) := fun σ F Ms H w Q q =>
  ha σ F Ms H w _ fun u F1 H1 s1 r1 => hr σ F1 Ms H1 (w.step s1) _ fun vs F2 H2 s2 r2 => q _ F2 H2 (s1.trans s2) ⟨⟨u, F2, rfl, s2.fh, τ.up r1 s2.f⟩, r2⟩
end
end HG

/-! statements, promises, calls -/
namespace HG
open PySem PyProof.Rows L2 Evl
variable {α β γ δ : Type}
def Tr (c : Cw) (Γ : List Spec) (t : TS) (D : Ends) : Prop := ∀ σ H, Hd c Γ σ H → t D σ H
/-- what is handed back -/
structure RetIs (c : Cw) (τ : Ty α) (x : α) (v : V) (H' : Hp) : Prop where
  ex : ∃ G, Ex c.A G ∧ Ex G H' ∧ (∀ a o, G a = some o → c.A a = none → ¬ c.N a) ∧ τ.R x G v
  fr : Ex c.Fr H'
  dm : ∀ a, c.N a → ∃ o, H' a = some o
structure RetNew (c : Cw) (κ : Ob α) (x : α) (v : V) (H' : Hp) : Prop where
  ex : ∃ G M, Ex c.A G ∧ Ex G H' ∧ (∀ a o, G a = some o → c.A a = none → ¬ c.N a) ∧ Ex M H' ∧ (∀ a o, M a = some o → G a = none ∧ ¬ c.N a) ∧ κ.S x G v M
  fr : Ex c.Fr H'
  dm : ∀ a, c.N a → ∃ o, H' a = some o
structure ExcOk (c : Cw) (H' : Hp) : Prop where
  fr : Ex c.Fr H'
  dm : ∀ a, c.N a → ∃ o, H' a = some o
inductive Out : Type 1 where
  | ret {α : Type} (τ : Ty α) (x : α)
  | new {α : Type} (κ : Ob α) (x : α)
  | exc (C : Addr)
  | retP {α : Type} (τ : Ty α) (P : α → Prop)
def Out.Sat (c : Cw) (Q : VK) (E : XK) : Out → Prop
  | .ret τ x => ∀ v H', RetIs c τ x v H' → Q v H'
  | .new κ x => ∀ v H', RetNew c κ x v H' → Q v H'
  | .exc C => ∀ H', ExcOk c H' → E (.ref C) none H'
  | .retP τ P => ∀ x v H', P x → RetIs c τ x v H' → Q v H'
theorem RetIs.sub {c d : Cw} (h : c.le d) {τ : Ty α} {x : α} {v : V} {H' : Hp} (r : RetIs d τ x v H') : RetIs c τ x v H' where
  ex := by
    obtain ⟨G, g1, g2, g3, g4⟩ := r.ex
    refine ⟨G, h.a.trans g1, g2, fun a o q n => ?_, g4⟩
    cases z : d.A a with
    | none => have := g3 a o q z; rw [h.nn] at this; exact this
    | some u => exact h.n a u z n
  fr := h.fr ▸ r.fr
  dm := h.nn ▸ r.dm
theorem RetNew.sub {c d : Cw} (h : c.le d) {κ : Ob α} {x : α} {v : V} {H' : Hp} (r : RetNew d κ x v H') : RetNew c κ x v H' where
  ex := by
    obtain ⟨G, M, g1, g2, g3, g4, g5, g6⟩ := r.ex
    refine ⟨G, M, h.a.trans g1, g2, fun a o q n => ?_, g4, by rw [← h.nn]; exact g5, g6⟩
    cases z : d.A a with
    | none => have := g3 a o q z; rw [h.nn] at this; exact this
    | some u => exact h.n a u z n
  fr := h.fr ▸ r.fr
  dm := h.nn ▸ r.dm
theorem ExcOk.sub {c d : Cw} (h : c.le d) {H' : Hp} (r : ExcOk d H') : ExcOk c H' := ⟨h.fr ▸ r.fr, h.nn ▸ r.dm⟩
theorem Out.Sat.sub {c d : Cw} {Q : VK} {E : XK} : ∀ {o : Out}, o.Sat c Q E → c.le d → o.Sat d Q E
  | .ret _ _, s, h => fun v H' r => s v H' (r.sub h)
  | .new _ _, s, h => fun v H' r => s v H' (r.sub h)
  | .exc _, s, h => fun H' r => s H' (r.sub h)
  | .retP _ _, s, h => fun x v H' p r => s x v H' p (r.sub h)
theorem Hd.exc {c : Cw} {Γ : List Spec} {σ : L2.St} {H : Hp} (h : Hd c Γ σ H) : ExcOk c H := by
  obtain ⟨F, Ms, w⟩ := h
  exact ⟨w.fr, w.dm⟩
section
variable {K : PySem.W.Frag} {C : Addr} {c : Cw} {Γ Δ : List Spec} {ta tb te tl td : TE} {t u : TT} {τ : Ty α} {θ : Ty β} {ρ : Ty γ} {x : α} {y : β} {z : γ} {D : Ends} {tu tw tz ts : TS}
theorem t_one (h : Tr c Γ (tSeq ts tNext) D) : Tr c Γ ts D := h
theorem t_asg {i : Nat} (h : EG c Γ te τ x) (k : Tr c (Γ.set i (.is τ x)) tz D) : Tr c Γ (tSeq (tAsg te (gName i)) tz) D := fun σ H ⟨F, Ms, w⟩ => h σ F Ms H w _ fun v F' H' s r => k _ _ ⟨F', Ms, (w.step s).set i r⟩
theorem t_new {κ : Ob α} {i : Nat} (h : EN c Γ te κ x) (k : Tr c (Γ.set i (.own κ x)) tz D) : Tr c Γ (tSeq (tAsg te (gName i)) tz) D := fun σ H ⟨F, Ms, w⟩ => h σ F Ms H w _ fun v F' M H' s m n r => k _ _ ⟨F', _, w.setNew s i m n r⟩
theorem t_drop (h : EG c Γ te τ x) (k : Tr c Γ tz D) : Tr c Γ (tSeq (tDrop te) tz) D := fun σ H ⟨F, Ms, w⟩ => h σ F Ms H w _ fun v F' H' s r => k _ _ ⟨F', Ms, w.step s⟩
theorem t_if {b : Bool} (h : ET c Γ t b) (h1 : b = true → Tr c Γ tu { D with nx := tz D }) (h2 : b = false → Tr c Γ tw { D with nx := tz D }) : Tr c Γ (tSeq (tIfS t tu tw) tz) D := fun σ H ⟨F, Ms, w⟩ => h σ F Ms H w _ fun F' H' s => by
  cases b with
  | true => exact iteT (h1 rfl _ _ ⟨F', Ms, w.step s⟩)
  | false => exact iteF (h2 rfl _ _ ⟨F', Ms, w.step s⟩)
/-- the ways of an if meet again -/
theorem t_ifJ {b : Bool} (h : ET c Γ t b) (h1 : b = true → Tr c Γ tu { D with nx := Hd c Δ }) (h2 : b = false → Tr c Γ tw { D with nx := Hd c Δ }) (k : Tr c Δ tz D) (mono : ∀ (ts : TS), (ts = tu ∨ ts = tw) → ∀ (Z : L2.St → Hp → Prop) σ H, ts { D with nx := Hd c Δ } σ H → (∀ σ' H', Hd c Δ σ' H' → Z σ' H') → ts { D with nx := Z } σ H) :
    Tr c Γ (tSeq (tIfS t tu tw) tz) D := t_if h (fun hb σ H hh => mono tu (.inl rfl) _ σ H (h1 hb σ H hh) k) (fun hb σ H hh => mono tw (.inr rfl) _ σ H (h2 hb σ H hh) k)
theorem t_next (h : ∀ σ H, Hd c Γ σ H → D.nx σ H) : Tr c Γ tNext D := h
/-- on to the rest, behind an if without else -/
theorem t_go (h : Tr c Γ tz D) : Tr c Γ tNext { D with nx := tz D } := h
/-- a plain fact, and what the slots hold -/
def At (c : Cw) (p : Prop) (Γ : List Spec) : L2.St → Hp → Prop := fun σ H => p ∧ Hd c Γ σ H
theorem t_end {Δ : List Spec} {p : Prop} {rt : VK} {bk ct : L2.St → Hp → Prop} (h : Wk Γ Δ) (hp : p) : Tr c Γ tNext { nx := At c p Δ, rt := rt, bk := bk, ct := ct } := fun σ H ⟨F, Ms, w⟩ => ⟨hp, F, Ms, w.weak h⟩
theorem t_weak {Δ : List Spec} (h : Wk Γ Δ) (k : Tr c Δ ts D) : Tr c Γ ts D := fun σ H ⟨F, Ms, w⟩ => k σ H ⟨F, Ms, w.weak h⟩
theorem t_fz {κ : Ob α} (i : Nat) (h : Γ[i]? = some (.own κ x)) (hj : ¬ c.J i) (k : Tr c (Γ.set i (.is κ.ty x)) ts D) : Tr c Γ ts D := fun σ H ⟨F, Ms, w⟩ => by
  obtain ⟨F', w', _⟩ := w.freeze h hj
  exact k σ H ⟨F', _, w'⟩
theorem Wd.retIs {σ : L2.St} {F H : Hp} {Ms : Nat → Hp} (w : Wd c Γ σ F Ms H) {v : V} (r : τ.R x F v) : RetIs c τ x v H := ⟨⟨F, w.af, w.fx, w.fn, r⟩, w.fr, w.dm⟩
theorem t_ret (h : EG c Γ te τ x) (q : ∀ v H', RetIs c τ x v H' → D.rt v H') : Tr c Γ (tRet te) D := fun σ H ⟨F, Ms, w⟩ => h σ F Ms H w _ fun v F' H' s r => q v H' ((w.step s).retIs r)
theorem t_retNo (q : ∀ v H', RetIs c aN () v H' → D.rt v H') : Tr c Γ tRetN D := fun σ H ⟨F, Ms, w⟩ => q _ _ (w.retIs (v := .non) rfl)
/-- off the end -/
theorem t_off (q : ∀ v H', RetIs c aN () v H' → D.nx = fun _ H => D.rt .non H → True) : True := trivial
theorem t_fall {Q : VK} (q : ∀ v H', RetIs c aN () v H' → Q v H') (e : D.nx = fun _ H => Q .non H) : Tr c Γ tNext D := fun σ H ⟨F, Ms, w⟩ => by
  show D.nx σ H
  rw [e]
  exact q _ _ (w.retIs (v := .non) rfl)
theorem t_retN {κ : Ob α} (h : EN c Γ te κ x) (q : ∀ v H', RetNew c κ x v H' → D.rt v H') : Tr c Γ (tRet te) D := fun σ H ⟨F, Ms, w⟩ => h σ F Ms H w _ fun v F' M H' s m n r => q v H' (by
  have w2 := w.step s
  exact ⟨⟨F', M, w2.af, w2.fx, w2.fn, m, fun a o h => ⟨(n a o h).2, fun k => by obtain ⟨u, hu⟩ := w.dm a k; rw [(n a o h).1] at hu; cases hu⟩, r⟩, w2.fr, w2.dm⟩)
/-- a thing of one's own is handed back -/
theorem t_retO {κ : Ob α} {i : Nat} (h : Γ[i]? = some (.own κ x)) (hj : ¬ c.J i) (q : ∀ v H', RetNew c κ x v H' → D.rt v H') : Tr c Γ (tRet (tVar i)) D := fun σ H ⟨F, Ms, w⟩ => by
  obtain ⟨v, h1, h2⟩ := w.ok i _ h
  exact ⟨v, h1, q v H ⟨⟨F, Ms i, w.af, w.fx, w.fn, w.mx i, fun a o ho => ⟨w.mf i a o ho, fun k => hj (w.mj i a o ho k)⟩, h2⟩, w.fr, w.dm⟩⟩
theorem Out.Sat.ret {Q : VK} {E : XK} {o : Out} (s : o.Sat c Q E) (e : o = .ret τ x) : ∀ v H', RetIs c τ x v H' → Q v H' := by rw [e] at s; exact s
theorem Out.Sat.new {Q : VK} {E : XK} {o : Out} {κ : Ob α} (s : o.Sat c Q E) (e : o = .new κ x) : ∀ v H', RetNew c κ x v H' → Q v H' := by rw [e] at s; exact s
theorem Out.Sat.exc {Q : VK} {E : XK} {o : Out} (s : o.Sat c Q E) (e : o = .exc C) : ∀ H', ExcOk c H' → E (.ref C) none H' := by rw [e] at s; exact s
/-! ### loops -/
/-- a list that stands still -/
def EF (K : PySem.W.Frag) (c : Cw) (Γ : List Spec) (te : TE) (τ : Ty α) (l : List α) : Prop := ∀ σ F Ms H, Wd c Γ σ F Ms H → ∀ Q : VK, (∀ a us F' H', Stp F H F' H' → SqL K F' a us → Its τ F' us l → Q (.ref a) H') → te σ H Q
theorem EG.ef {l : List α} (h : EG c Γ te (aL τ) l) : EF K c Γ te τ l := fun σ F Ms H w Q q => h σ F Ms H w _ fun v F1 H1 s ⟨p, us, e, r, i⟩ => by
  subst e
  exact q p us F1 H1 s (.inl (.inl r)) i
theorem EG.efs {l : List Int} (h : EG c Γ te (aScr K) l) : EF K c Γ te aI l := fun σ F Ms H w Q q => h σ F Ms H w _ fun v F1 H1 s ⟨p, e, r⟩ => by
  subst e
  exact q p _ F1 H1 s r (its_tM.mpr rfl)
theorem EN.ef {l : List α} (h : EN c Γ te (oL τ) l) : EF K c Γ te τ l := EG.ef (EN.fz h)
theorem t_forL {l : List α} {j : Nat} (Γi : Nat → List Spec) (I : Nat → Prop) (hl : EF K c Γ tl τ l) (h0 : Wk Γ (Γi 0)) (i0 : I 0)
    (hs : ∀ i x, l[i]? = some x → I i → ∀ d, c.le d → Tr d ((Γi i).set j (.is τ x)) tb' { D with nx := At d (I (i + 1)) (Γi (i + 1)), ct := At d (I (i + 1)) (Γi (i + 1)), bk := tz D }) (hd : I l.length → Tr c (Γi l.length) tz D) :
    Tr c Γ (tSeq (tFor (iList K tl) (gName j) tb') tz) D := fun σ H ⟨F, Ms, w⟩ => hl σ F Ms H w _ fun a us F1 H1 s1 h1 i1 => ⟨a, rfl, ⟨us, ex_l s1.fh h1⟩, by
  have w1 := w.step s1
  have hle := w1.here_le
  refine for_list (K := K) (a := a) (xs := us) (fun i σ' H' => At (c.here F1) (I i) (Γi i) σ' H') ⟨i0, F1, Ms, w1.here.weak h0⟩ (fun i σ' H' _ ⟨_, F', Ms', w'⟩ => ex_l (w'.af.trans w'.fx) h1) ?_ ?_
  · rintro i v σ' H' hv ⟨ii, F', Ms', w'⟩
    obtain ⟨b, hb, hr⟩ := pr_get i1 hv
    exact hs i b hb ii _ hle _ _ ⟨F', Ms', w'.set j (τ.up hr w'.af)⟩
  · rintro σ' H' ⟨ii, F', Ms', w'⟩
    rw [pr_len i1] at w' ii
    exact hd ii σ' H' ⟨F', Ms', w'.sub hle⟩⟩
theorem t_forR {n : Int} {j : Nat} (Γi : Nat → List Spec) (I : Nat → Prop) (hn : EG c Γ ta aI n) (hz : -100000 ≤ n ∧ n < 100000) (h0 : Wk Γ (Γi 0)) (i0 : I 0)
    (hs : ∀ i : Nat, (i : Int) < n → I i → Tr c ((Γi i).set j (.is aI (i : Int))) tb' { D with nx := At c (I (i + 1)) (Γi (i + 1)), ct := At c (I (i + 1)) (Γi (i + 1)), bk := tz D }) (hd : I n.toNat → Tr c (Γi n.toNat) tz D) :
    Tr c Γ (tSeq (tFor (iRng1 (tCons ta tNil)) (gName j) tb') tz) D := fun σ H ⟨F, Ms, w⟩ => hn σ F Ms H w _ fun v F1 H1 s1 r1 => ⟨n, by rw [show v = V.int n from r1], by omega, by omega, by
  refine for_range (lo := 0) (n := n.toNat) (fun i σ' H' => At c (I i) (Γi i) σ' H') ⟨i0, F1, Ms, (w.step s1).weak h0⟩ ?_ (fun σ' H' ⟨ii, h'⟩ => hd ii σ' H' h')
  rintro i σ' H' hi ⟨ii, F', Ms', w'⟩
  have ez : V.int (0 + (i : Int)) = V.int (i : Int) := by rw [Int.zero_add]
  rw [ez]
  exact hs i (by omega) ii _ _ ⟨F', Ms', w'.set (τ := aI) (x := (i : Int)) j rfl⟩⟩
theorem t_forR2 {a n : Int} {j : Nat} (Γi : Nat → List Spec) (I : Nat → Prop) (ha : EG c Γ ta aI a) (hn : EG c Γ tb aI n) (hz : -100000 < a ∧ a < 100000 ∧ -100000 < n ∧ n < 100000) (h0 : Wk Γ (Γi 0)) (i0 : I 0)
    (hs : ∀ i : Nat, a + (i : Int) < n → I i → Tr c ((Γi i).set j (.is aI (a + (i : Int)))) tb' { D with nx := At c (I (i + 1)) (Γi (i + 1)), ct := At c (I (i + 1)) (Γi (i + 1)), bk := tz D }) (hd : I (n - a).toNat → Tr c (Γi (n - a).toNat) tz D) :
    Tr c Γ (tSeq (tFor (iRng2 (tCons ta (tCons tb tNil))) (gName j) tb') tz) D := fun σ H ⟨F, Ms, w⟩ => ha σ F Ms H w _ fun v F1 H1 s1 r1 => hn σ F1 Ms H1 (w.step s1) _ fun v2 F2 H2 s2 r2 => ⟨a, n, by rw [show v = V.int a from r1, show v2 = V.int n from r2], by omega, by
  refine for_range (lo := a) (n := (n - a).toNat) (fun i σ' H' => At c (I i) (Γi i) σ' H') ⟨i0, F2, Ms, ((w.step s1).step s2).weak h0⟩ ?_ (fun σ' H' ⟨ii, h'⟩ => hd ii σ' H' h')
  rintro i σ' H' hi ⟨ii, F', Ms', w'⟩
  exact hs i (by omega) ii _ _ ⟨F', Ms', w'.set (τ := aI) (x := a + (i : Int)) j rfl⟩⟩
theorem t_while {ι : Type} (Γs : ι → List Spec) (I : ι → Prop) (μ : ι → Nat) (b : ι → Bool) (s0 : ι) (h0 : Wk Γ (Γs s0)) (i0 : I s0) (ht : ∀ s, I s → ET c (Γs s) t (b s))
    (hs : ∀ s, I s → b s = true → Tr c (Γs s) tb' { D with nx := fun σ H => ∃ s', μ s' < μ s ∧ I s' ∧ Hd c (Γs s') σ H, ct := fun σ H => ∃ s', μ s' < μ s ∧ I s' ∧ Hd c (Γs s') σ H, bk := tz D }) (hd : ∀ s, I s → b s = false → Tr c (Γs s) tz D) :
    Tr c Γ (tSeq (tWhile t tb') tz) D := fun σ H ⟨F, Ms, w⟩ => ⟨fun m σ' H' => ∃ s, μ s = m ∧ I s ∧ Hd c (Γs s) σ' H', ⟨_, s0, rfl, i0, F, Ms, w.weak h0⟩, by
  rintro m σ' H' ⟨s, rfl, is, F', Ms', w'⟩
  refine ht s is σ' F' Ms' H' w' _ fun F2 H2 s2 => ?_
  cases hb : b s with
  | true => exact iteT ⟨_, fun σ3 H3 ⟨s3, l3, i3, h3⟩ => ⟨_, l3, s3, rfl, i3, h3⟩, hs s is hb _ _ ⟨F2, Ms', w'.step s2⟩⟩
  | false => exact iteF (hd s is hb _ _ ⟨F2, Ms', w'.step s2⟩)⟩
theorem t_endW {ι : Type} {Γs : ι → List Spec} {I : ι → Prop} {μ : ι → Nat} {m : Nat} {rt : VK} {bk ct : L2.St → Hp → Prop} (s' : ι) (h : Wk Γ (Γs s')) (i : I s') (l : μ s' < m) : Tr c Γ tNext { nx := fun σ H => ∃ s', μ s' < m ∧ I s' ∧ Hd c (Γs s') σ H, rt := rt, bk := bk, ct := ct } := fun σ H ⟨F, Ms, w⟩ =>
  ⟨s', l, i, F, Ms, w.weak h⟩
/-! ### what changes things -/
/-- te evaluates to x, and the slots' words become Δ -/
def EM (c : Cw) (Γ : List Spec) (te : TE) (Δ : List Spec) (τ : Ty α) (x : α) : Prop := ∀ σ F Ms H, Wd c Γ σ F Ms H → ∀ Q : VK, (∀ v F' Ms' H', Wd c Δ σ F' Ms' H' → τ.R x F' v → Q v H') → te σ H Q
theorem t_dropM (h : EM c Γ te Δ τ x) (k : Tr c Δ tz D) : Tr c Γ (tSeq (tDrop te) tz) D := fun σ H ⟨F, Ms, w⟩ => h σ F Ms H w _ fun v F' Ms' H' w' r => k _ _ ⟨F', Ms', w'⟩
theorem t_asgM {i : Nat} (h : EM c Γ te Δ τ x) (k : Tr c (Δ.set i (.is τ x)) tz D) : Tr c Γ (tSeq (tAsg te (gName i)) tz) D := fun σ H ⟨F, Ms, w⟩ => h σ F Ms H w _ fun v F' Ms' H' w' r => k _ _ ⟨F', Ms', w'.set i r⟩
theorem t_retM (h : EM c Γ te Δ τ x) (q : ∀ v H', RetIs c τ x v H' → D.rt v H') : Tr c Γ (tRet te) D := fun σ H ⟨F, Ms, w⟩ => h σ F Ms H w _ fun v F' Ms' H' w' r => q v H' (w'.retIs r)
/-- one cell changes -/
theorem Wd.mut1 {σ : L2.St} {F H : Hp} {Ms : Nat → Hp} (w : Wd c Γ σ F Ms H) {κ : Ob α} {κ' : Ob β} {x : α} {y : β} {i : Nat} (h : Γ[i]? = some (.own κ x)) {p : Addr} {o o' : HO} (hm : Ms i = one p o) {v : V} (hv : σ[i]? = some (some v)) (r : κ'.S y F v (one p o')) :
    Wd c (Γ.set i (.own κ' y)) σ F (updM Ms i (one p o')) (upd H p o') := by
  obtain ⟨v', h1, h2, m, k⟩ := w.mut (κ' := κ') (y := y) h
  have ev : v' = v := by rw [hv] at h1; exact (Option.some.inj (Option.some.inj h1)).symm
  subst ev
  have hp : Ms i p = some o := by rw [hm]; exact one_at
  have ne : ∀ a u, F a = some u → a ≠ p := fun a u q e => by rw [e, w.mf i p o hp] at q; cases q
  refine k _ F _ (Ex.refl _) (one_ex upd_same) (fun a u ha hn => ?_) (fun a ⟨u, ha⟩ => ?_) (fun a u ha => ?_) (fun a u ha => ?_) (fun a u ha => ?_) (fun a u q n => ?_) r
  · have : a ≠ p := fun e => by rw [e, hp] at hn; cases hn
    rw [upd_ne this]; exact ha
  · rw [hm] at ha
    obtain ⟨rfl, _⟩ := one_some ha
    exact ⟨_, upd_same⟩
  · obtain ⟨rfl, _⟩ := one_some ha
    exact .inl ⟨_, hp⟩
  · obtain ⟨rfl, _⟩ := one_some ha
    exact w.mf i _ _ hp
  · rw [upd_ne (ne a u ha)]; exact w.fx _ _ ha
  · rw [q] at n; cases n
theorem em_app {l : List α} {i : Nat} (h : Γ[i]? = some (.own (oL τ) l)) (he : EG c Γ te τ x) (hz : l.length < 100000) : EM c Γ (tBM K "list" rAppend (tVar i) (tCons te tNil)) (Γ.set i (.own (oL τ) (l ++ [x]))) aN () := fun σ F Ms H w Q q => by
  obtain ⟨v, h1, p, us, e, m, r⟩ := w.ok i _ h
  subst e
  refine ⟨_, h1, .inl ⟨rfl, us, .inl (.inl (w.mx i _ _ (by rw [m]; exact one_at)))⟩, he σ F Ms H w _ fun v F1 H1 s1 r1 => ⟨p, us, v, rfl, rfl, s1.h _ _ (w.mx i _ _ (by rw [m]; exact one_at)), sz_lt (by rw [pr_len r]; exact hz), ?_⟩⟩
  exact q _ _ _ _ ((w.step s1).mut1 (κ' := oL τ) (y := l ++ [x]) h m h1 ⟨p, _, rfl, rfl, pr_snoc (r.up s1.f) r1⟩) rfl
theorem em_ext {l k : List α} {i : Nat} (h : Γ[i]? = some (.own (oL τ) l)) (he : EX c Γ te τ k) (hz : l.length + k.length ≤ 100000) : EM c Γ (tBM K "list" rExtend (tVar i) (tCons te tNil)) (Γ.set i (.own (oL τ) (l ++ k))) aN () := fun σ F Ms H w Q q => by
  obtain ⟨v, h1, p, us, e, m, r⟩ := w.ok i _ h
  subst e
  refine ⟨_, h1, .inl ⟨rfl, us, .inl (.inl (w.mx i _ _ (by rw [m]; exact one_at)))⟩, he σ F Ms H w _ fun b zs F1 H1 s1 g1 r1 => ⟨p, b, us, zs, rfl, rfl, s1.h _ _ (w.mx i _ _ (by rw [m]; exact one_at)), g1, sz_of (by rw [pr_len r, pr_len r1]; exact hz), ?_⟩⟩
  exact q _ _ _ _ ((w.step s1).mut1 (κ' := oL τ) (y := l ++ k) h m h1 ⟨p, _, rfl, rfl, pr_app (r.up s1.f) r1⟩) rfl
theorem em_popAt {l : List α} {i : Nat} {k : Int} {n : Nat} (h : Γ[i]? = some (.own (oL τ) l)) (he : EG c Γ te aI k) (hk : -(2 ^ 63) ≤ k ∧ k < 2 ^ 63) (hn : seqIndex? k l.length = some n) (hx : l[n]? = some x) :
    EM c Γ (tBM K "list" rPopAt (tVar i) (tCons te tNil)) (Γ.set i (.own (oL τ) (l.eraseIdx n))) τ x := fun σ F Ms H w Q q => by
  obtain ⟨v, h1, p, us, e, m, r⟩ := w.ok i _ h
  subst e
  obtain ⟨v', e1, e2⟩ := pr_get2 r hx
  refine ⟨_, h1, .inl ⟨rfl, us, .inl (.inl (w.mx i _ _ (by rw [m]; exact one_at)))⟩, he σ F Ms H w _ fun v F1 H1 s1 r1 => ⟨p, us, k, n, v', rfl, by rw [show v = V.int k from r1], s1.h _ _ (w.mx i _ _ (by rw [m]; exact one_at)), hk.1, hk.2, by rw [pr_len r]; exact hn, e1, ?_⟩⟩
  exact q _ _ _ _ ((w.step s1).mut1 (κ' := oL τ) (y := l.eraseIdx n) h m h1 ⟨p, _, rfl, rfl, pr_erase n (r.up s1.f)⟩) (τ.up e2 s1.f)
theorem em_pop {l : List α} {i : Nat} (h : Γ[i]? = some (.own (oL τ) l)) (hx : l[l.length - 1]? = some x) : EM c Γ (tBM0 K "list" rPop (tVar i)) (Γ.set i (.own (oL τ) l.dropLast)) τ x := fun σ F Ms H w Q q => by
  obtain ⟨v, h1, p, us, e, m, r⟩ := w.ok i _ h
  subst e
  obtain ⟨v', e1, e2⟩ := pr_get2 r hx
  refine ⟨_, h1, .inl ⟨rfl, us, .inl (.inl (w.mx i _ _ (by rw [m]; exact one_at)))⟩, p, us, v', rfl, rfl, w.mx i _ _ (by rw [m]; exact one_at), by rw [pr_len r]; exact e1, ?_⟩
  refine q _ _ _ _ (w.mut1 (κ' := oL τ) (y := l.dropLast) h m h1 ⟨p, _, rfl, rfl, ?_⟩) e2
  rw [List.dropLast_eq_take, List.dropLast_eq_take, pr_len r]
  exact pr_take _ r
theorem em_clear {l : List α} {i : Nat} (h : Γ[i]? = some (.own (oL τ) l)) : EM c Γ (tBM0 K "list" rClear (tVar i)) (Γ.set i (.own (oL τ) [])) aN () := fun σ F Ms H w Q q => by
  obtain ⟨v, h1, p, us, e, m, r⟩ := w.ok i _ h
  subst e
  refine ⟨_, h1, .inl ⟨rfl, us, .inl (.inl (w.mx i _ _ (by rw [m]; exact one_at)))⟩, p, us, rfl, rfl, w.mx i _ _ (by rw [m]; exact one_at), ?_⟩
  exact q _ _ _ _ (w.mut1 (κ' := oL τ) (y := []) h m h1 ⟨p, _, rfl, rfl, .nil⟩) rfl
/-- l[k] = e -/
theorem t_setL {l : List α} {i : Nat} {k : Int} {n : Nat} {tk : TE} (h : Γ[i]? = some (.own (oL τ) l)) (he : EG c Γ te τ x) (hk : EG c Γ tk aI k) (hn : ixN l.length k = some n) (q : Tr c (Γ.set i (.own (oL τ) (l.set n x))) tz D) :
    Tr c Γ (tSeq (tAsg te (gSub (tVar i) tk rSetL)) tz) D := fun σ H ⟨F, Ms, w⟩ => by
  obtain ⟨v, h1, p, us, e, m, r⟩ := w.ok i _ h
  subst e
  refine he σ F Ms H w _ fun v F1 H1 s1 r1 => ⟨_, h1, hk σ F1 Ms H1 (w.step s1) _ fun v2 F2 H2 s2 r2 => ⟨p, us, k, n, rfl, r2, s2.h _ _ (s1.h _ _ (w.mx i _ _ (by rw [m]; exact one_at))), by rw [pr_len r]; exact hn, ?_⟩⟩
  exact q _ _ ⟨_, _, ((w.step s1).step s2).mut1 (κ' := oL τ) (y := l.set n x) h m h1 ⟨p, _, rfl, rfl, pr_set (τ.up r1 s2.f) n (r.up (s1.f.trans s2.f))⟩⟩
theorem ents_pk {F : Hp} {us : List (Key × V)} {l : List (Int × α)} {k : Int} {v : V} {x : α} (h : Ents τ F us l) (r : τ.R x F v) : Ents τ F (putK us (.inl k) v) (putI l k x) := by
  have hany : (us.any fun e => decide (e.1 = Sum.inl k)) = l.any fun e => decide (e.1 = k) := by
    clear r
    induction h with
    | nil => rfl
    | cons a t ih =>
      rw [List.any_cons, List.any_cons, ih]
      congr 1
      rw [a.1]
      exact decide_eq_decide.mpr ⟨fun e => Sum.inl.inj e, fun e => by rw [e]⟩
  unfold putK putI
  rw [hany]
  split
  · have key : ∀ {us : List (Key × V)} {l : List (Int × α)}, Ents τ F us l → Ents τ F (us.map fun e => if e.1 = Sum.inl k then (e.1, v) else e) (l.map fun e => if e.1 = k then (e.1, x) else e) := by
      intro us l h
      induction h with
      | nil => exact .nil
      | @cons u e _ _ a t ih =>
        rw [List.map_cons, List.map_cons]
        refine .cons ?_ ih
        by_cases c : e.1 = k
        · rw [if_pos (by rw [a.1, c]), if_pos c]
          exact ⟨a.1, r⟩
        · rw [if_neg (by rw [a.1]; exact fun q => c (Sum.inl.inj q)), if_neg c]
          exact a
    exact key h
  · have key : ∀ {us us' : List (Key × V)} {l l' : List (Int × α)}, Ents τ F us l → Ents τ F us' l' → Ents τ F (us ++ us') (l ++ l') := by
      intro us us' l l' h h'
      induction h with
      | nil => exact h'
      | cons a t ih => exact .cons a ih
    exact key h (.cons ⟨rfl, r⟩ .nil)
theorem pr_len' {α β : Type} {S : α → β → Prop} : ∀ {vs : List α} {l : List β}, Paired S vs l → vs.length = l.length
  | _, _, .nil => rfl
  | _, _, .cons _ t => congrArg (· + 1) (pr_len' t)
theorem t_dputK {l : List (Int × α)} {i : Nat} {k : Int} {tk : TE} (h : Γ[i]? = some (.own (oDK τ) l)) (he : EG c Γ te τ x) (hk : EG c Γ tk aI k) (hz : l.length < 100000) (q : Tr c (Γ.set i (.own (oDK τ) (putI l k x))) tz D) :
    Tr c Γ (tSeq (sDPut (tVar i) tk te) tz) D := fun σ H ⟨F, Ms, w⟩ => by
  obtain ⟨v, h1, p, us, e, m, r⟩ := w.ok i _ h
  subst e
  refine he σ F Ms H w _ fun v F1 H1 s1 r1 => ⟨_, h1, hk σ F1 Ms H1 (w.step s1) _ fun v2 F2 H2 s2 r2 => ?_⟩
  cases (show v2 = V.int k from r2)
  refine ⟨p, _, rfl, DPut.k (k := .inl k) (s2.h _ _ (s1.h _ _ (w.mx i _ _ (by rw [m]; exact one_at)))) (sz_lt (by rw [pr_len' r]; exact hz)), ?_⟩
  exact q _ _ ⟨_, _, ((w.step s1).step s2).mut1 (κ' := oDK τ) (y := putI l k x) h m h1 ⟨p, _, rfl, rfl, ents_pk (r.up (s1.f.trans s2.f)) (τ.up r1 s2.f)⟩⟩
theorem t_dputT {l : Kvs} {i : Nat} {k : KP} {n : Int} {tk : TE} (h : Γ[i]? = some (.own oDT l)) (he : EG c Γ te aI n) (hk : EKP c Γ tk k) (hz : l.length < 100000) (q : Tr c (Γ.set i (.own oDT (putP l k n))) tz D) :
    Tr c Γ (tSeq (sDPut (tVar i) tk te) tz) D := fun σ H ⟨F, Ms, w⟩ => by
  obtain ⟨v, h1, p, e, m⟩ := w.ok i _ h
  subst e
  refine he σ F Ms H w _ fun v F1 H1 s1 r1 => ⟨_, h1, hk σ F1 Ms H1 (w.step s1) _ fun b F2 H2 s2 r2 => ⟨p, _, rfl, DPut.t (k := keyP k) (s2.h _ _ (s1.h _ _ (w.mx i _ _ (by rw [m]; exact one_at)))) r2 (sz_lt (by rw [bk_len]; exact hz)), ?_⟩⟩
  rw [show v = V.int n from r1, putK_bk]
  exact q _ _ ⟨_, _, ((w.step s1).step s2).mut1 (κ' := oDT) (y := putP l k n) h m h1 ⟨p, rfl, rfl⟩⟩
/-! ### promises -/
def cw0 (A H : Hp) : Cw := ⟨A, H, fun a => ∃ o, H a = some o, fun _ => False⟩
/-- what is handed in, what comes of it -/
def Pm {ι : Type} (Γ : ι → List Spec) (o : ι → Out) (pre : ι → Prop) : Sp := fun vs H Q E => ∃ a A, pre a ∧ Ex A H ∧ AOk A H (Γ a) vs ∧ (o a).Sat (cw0 A H) Q E
theorem AOk.len {F H : Hp} : ∀ {Ss : List Spec} {vs : List V}, AOk F H Ss vs → Ss.length = vs.length
  | [], [], _ => rfl
  | _ :: Ss, _ :: vs, h => congrArg (· + 1) (AOk.len h.2)
def entS : List Str → List Spec → List Spec
  | _ :: N, s :: Ss => s :: entS N Ss
  | _ :: N, [] => .any :: entS N []
  | [], _ => []
theorem entS_nil : ∀ (N : List Str), entS N [] = List.replicate N.length .any
  | [] => rfl
  | _ :: N => by show Spec.any :: entS N [] = _; rw [entS_nil N]; rfl
theorem entS_eq : ∀ (N : List Str) (Ss : List Spec), Ss.length ≤ N.length → entS N Ss = Ss ++ List.replicate (N.length - Ss.length) .any
  | [], [], _ => rfl
  | [], _ :: _, h => by simp at h
  | n :: N, [], _ => by rw [entS_nil]; rfl
  | n :: N, s :: Ss, h => by
    show s :: entS N Ss = _
    rw [entS_eq N Ss (by simpa using h)]
    simp
theorem AOk.get {F H : Hp} : ∀ {Ss : List Spec} {vs : List V} {i : Nat} {s : Spec}, AOk F H Ss vs → Ss[i]? = some s → ∃ v, vs[i]? = some v ∧ Ok F H none0 s (some (some v))
  | [], [], i, s, _, e => by simp at e
  | s :: Ss, v :: vs, 0, t, h, e => by
    simp at e; subst e
    exact ⟨v, rfl, h.1⟩
  | s :: Ss, v :: vs, i + 1, t, h, e => by
    obtain ⟨v', h1, h2⟩ := AOk.get (i := i) h.2 (by simpa using e)
    exact ⟨v', by simpa using h1, h2⟩
theorem enter {A H : Hp} {N : List Str} {Ss : List Spec} {vs : List V} (e : Ex A H) (h : AOk A H Ss vs) (hl : Ss.length ≤ N.length) : Hd (cw0 A H) (entS N Ss) (L2.start N vs) H := by
  refine ⟨A, fun _ => none0, ?_⟩
  exact {
    len := by
      rw [entS_eq N Ss hl]
      unfold L2.start
      simp [h.len]
    fx := e
    fr := Ex.refl _
    af := Ex.refl _
    fn := fun a o q n => by rw [show (cw0 A H).A a = A a from rfl, q] at n; cases n
    dm := fun a k => k
    mx := fun _ => ex_none0
    mf := fun _ _ _ q => nomatch q
    mr := fun _ _ _ q => nomatch q
    mj := fun _ _ _ q => nomatch q
    mm := fun _ _ _ _ _ q => nomatch q
    ok := fun i s hs => by
      rw [entS_eq N Ss hl] at hs
      by_cases c : i < Ss.length
      · rw [List.getElem?_append_left c] at hs
        obtain ⟨v, h1, h2⟩ := h.get hs
        unfold L2.start
        rw [List.getElem?_append_left (by rw [List.length_map, ← h.len]; exact c), List.getElem?_map, h1]
        exact h2
      · rw [List.getElem?_append_right (Nat.le_of_not_lt c)] at hs
        have := List.mem_of_getElem? hs
        rw [(List.mem_replicate.mp this).2]
        trivial }
/-- a def as it stands behind the top -/
structure FunX (K : PySem.W.Frag) (x qual : Str) (st : Stmt) (f : Addr) (fd : FuncData) : Prop where
  ex : ∃ (oc : Value) (od : Option Addr) (kV doc pm : Value) (an : Option Addr) (cdv ct : Value) (osl : Array (Option Value)),
    fd = PySem.W.fnOf x qual (defArgs st) (defBody st) (defScope st) .none kV doc pm an cdv ct ∧ K.lookup f = some ⟨oc, od, .func fd, osl⟩ ∧ PySem.W.codeIn K cdv qual = true
section
variable {P : Program} {w : World} {mg : Str → Option Value} {base : Heap}
/-- a def keeps its promise: it lets nothing out -/
theorem okP {ι : Type} {n qual : Str} {st : Stmt} {f : Addr} {fd : FuncData} {N ps : List Str} {k : Nat} {Γ : ι → List Spec} {o : ι → Out} {pre : ι → Prop} (F : FunX K n qual st f fd) (S : FnScope N ps (defScope st)) (len : ∀ a, (Γ a).length = ps.length)
    (hbody : ∀ (cdv : Value) (A : Around) (outer : List Env) (s : Shared) (H : Hp) (Q : VK) (E : XK) (a : ι) (A0 : Hp), Room k (A.deeper (envOfC qual (defScope st) s.heap.objs.size f cdv)) → pre a → (o a).Sat (cw0 A0 H) Q E →
      ∃ t, PSs (cxOf (L2.CX P w) P w K mg base N qual (defScope st) f cdv A outer s H E).nox (defBody st) t ∧ Tr (cw0 A0 H) (entS N (Γ a)) t { nx := fun _ H' => Q .non H', rt := Q }) (hl : ps.length ≤ N.length := by decide) :
    FnOk P w K mg base (L2.CX P w) (k + 1) f fd ps (Pm Γ o pre) := by
  obtain ⟨oc, od, kV, doc, pm, an, cdv, ct, osl, rfl, lk, hcd⟩ := F.ex
  refine fn_of lk hcd S (fun vs H Q E ⟨a, A, _, _, h, _⟩ => by rw [← h.len, len a]) fun A outer s H vs Q E hr hsp => ?_
  obtain ⟨a, A0, hp, hx, ha, hs⟩ := hsp
  obtain ⟨t, h, q⟩ := hbody cdv A outer s H Q E a A0 hr hp hs
  exact ⟨t, h.nox, q _ _ (enter hx ha (by rw [len a]; exact hl))⟩
/-- one that may raise -/
theorem okPX {ι : Type} {n qual : Str} {st : Stmt} {f : Addr} {fd : FuncData} {N ps : List Str} {k : Nat} {Γ : ι → List Spec} {o : ι → Out} {pre : ι → Prop} (F : FunX K n qual st f fd) (S : FnScope N ps (defScope st)) (len : ∀ a, (Γ a).length = ps.length)
    (hbody : ∀ (cdv : Value) (A : Around) (outer : List Env) (s : Shared) (H : Hp) (Q : VK) (E : XK) (a : ι) (A0 : Hp), Room k (A.deeper (envOfC qual (defScope st) s.heap.objs.size f cdv)) → pre a → (o a).Sat (cw0 A0 H) Q E →
      ∃ t, PSs (cxOf (L2.CX P w) P w K mg base N qual (defScope st) f cdv A outer s H E) (defBody st) t ∧ Tr (cw0 A0 H) (entS N (Γ a)) t { nx := fun _ H' => Q .non H', rt := Q }) (hl : ps.length ≤ N.length := by decide) :
    FnOk P w K mg base (L2.CX P w) (k + 1) f fd ps (Pm Γ o pre) := by
  obtain ⟨oc, od, kV, doc, pm, an, cdv, ct, osl, rfl, lk, hcd⟩ := F.ex
  refine fn_of lk hcd S (fun vs H Q E ⟨a, A, _, _, h, _⟩ => by rw [← h.len, len a]) fun A outer s H vs Q E hr hsp => ?_
  obtain ⟨a, A0, hp, hx, ha, hs⟩ := hsp
  obtain ⟨t, h, q⟩ := hbody cdv A outer s H Q E a A0 hr hp hs
  exact ⟨t, h, q _ _ (enter hx ha (by rw [len a]; exact hl))⟩
end
/-! ### calls -/
theorem RetIs.stp {A H H' : Hp} {v : V} (r : RetIs (cw0 A H) τ x v H') : ∃ G, Stp A H G H' ∧ τ.R x G v := by
  obtain ⟨G, g1, g2, g3, g4⟩ := r.ex
  exact ⟨G, ⟨g1, r.fr, g2, fun a o q n => none_of fun u hu => g3 a o q n ⟨u, hu⟩⟩, g4⟩
theorem RetNew.stp {A H H' : Hp} {v : V} {κ : Ob α} (r : RetNew (cw0 A H) κ x v H') : ∃ G M, Stp A H G H' ∧ Ex M H' ∧ (∀ a o, M a = some o → H a = none ∧ G a = none) ∧ κ.S x G v M := by
  obtain ⟨G, M, g1, g2, g3, g4, g5, g6⟩ := r.ex
  exact ⟨G, M, ⟨g1, r.fr, g2, fun a o q n => none_of fun u hu => g3 a o q n ⟨u, hu⟩⟩, g4, fun a o q => ⟨none_of fun u hu => (g5 a o q).2 ⟨u, hu⟩, (g5 a o q).1⟩, g6⟩
section
variable {ι : Type} {Γp : ι → List Spec} {o : ι → Out} {pre : ι → Prop} {E : XK} {tt : TA} {κ : Ob α}
theorem eg_call (a : ι) (ha : EA c Γ tt (Γp a)) (hp : pre a) (ho : o a = .ret τ x) : EG c Γ (tCall (Pm Γp o pre) [] E tt) τ x := fun σ F Ms H w Q q =>
  ha σ F Ms H w _ fun vs F1 H1 s1 r1 => by
    refine ⟨a, F1, hp, s1.fh, by rw [List.append_nil]; exact r1.up (Ex.refl _) (Ex.refl _), ?_⟩
    rw [ho]
    intro v H' r
    obtain ⟨G, s2, r2⟩ := r.stp
    exact q v G H' (s1.trans s2) r2
theorem en_call (a : ι) (ha : EA c Γ tt (Γp a)) (hp : pre a) (ho : o a = .new κ x) : EN c Γ (tCall (Pm Γp o pre) [] E tt) κ x := fun σ F Ms H w Q q =>
  ha σ F Ms H w _ fun vs F1 H1 s1 r1 => by
    refine ⟨a, F1, hp, s1.fh, by rw [List.append_nil]; exact r1.up (Ex.refl _) (Ex.refl _), ?_⟩
    rw [ho]
    intro v H' r
    obtain ⟨G, M, s2, m, n, r2⟩ := r.stp
    exact q v G M H' (s1.trans s2) m (en_step s1 n) r2
theorem eg_meth {m : Str} {b : Bk} {Ss : List Spec} (a : ι) (hb : EB C c Γ ta b) (ha : EA c Γ tt Ss) (hΓ : Γp a = .see (aBk C) b :: Ss) (hp : pre a) (ho : o a = .ret τ x) (h1 : ¬ m = "costs" := by decide +kernel) (h2 : ¬ m = "size" := by decide +kernel) :
    EG c Γ (tMeth C m (Pm Γp o pre) [] E ta tt) τ x := fun σ F Ms H w Q q =>
  hb σ F Ms H w _ fun p d dx F1 H1 s1 B => ⟨p, dx, _, rfl, B.ob, flds_no _ _ h1 h2, ha σ F1 Ms H1 (w.step s1) _ fun vs F2 H2 s2 r2 => by
    have B2 := B.up s2.h
    refine ⟨a, F2, hp, s2.fh, ?_, ?_⟩
    · rw [List.append_nil, hΓ]
      exact ⟨⟨_, bkH C p d dx b, rfl, bkH_ex B2, p, d, dx, rfl, bkH_at B.ne⟩, r2⟩
    rw [ho]
    intro v H' r
    obtain ⟨G, s3, r3⟩ := r.stp
    exact q v G H' ((s1.trans s2).trans s3) r3⟩
theorem en_meth {m : Str} {b : Bk} {Ss : List Spec} (a : ι) (hb : EB C c Γ ta b) (ha : EA c Γ tt Ss) (hΓ : Γp a = .see (aBk C) b :: Ss) (hp : pre a) (ho : o a = .new κ x) (h1 : ¬ m = "costs" := by decide +kernel) (h2 : ¬ m = "size" := by decide +kernel) :
    EN c Γ (tMeth C m (Pm Γp o pre) [] E ta tt) κ x := fun σ F Ms H w Q q =>
  hb σ F Ms H w _ fun p d dx F1 H1 s1 B => ⟨p, dx, _, rfl, B.ob, flds_no _ _ h1 h2, ha σ F1 Ms H1 (w.step s1) _ fun vs F2 H2 s2 r2 => by
    have B2 := B.up s2.h
    refine ⟨a, F2, hp, s2.fh, ?_, ?_⟩
    · rw [List.append_nil, hΓ]
      exact ⟨⟨_, bkH C p d dx b, rfl, bkH_ex B2, p, d, dx, rfl, bkH_at B.ne⟩, r2⟩
    rw [ho]
    intro v H' r
    obtain ⟨G, M, s3, m, n, r3⟩ := r.stp
    exact q v G M H' ((s1.trans s2).trans s3) m (en_step (s1.trans s2) n) r3⟩
end
/-- te evaluates to some x of which P holds -/
def EP (c : Cw) (Γ : List Spec) (te : TE) (τ : Ty α) (P : α → Prop) : Prop := ∀ σ F Ms H, Wd c Γ σ F Ms H → ∀ Q : VK, (∀ x v F' H', P x → Stp F H F' H' → τ.R x F' v → Q v H') → te σ H Q
theorem t_asgP {P : α → Prop} {i : Nat} (h : EP c Γ te τ P) (k : ∀ x, P x → Tr c (Γ.set i (.is τ x)) tz D) : Tr c Γ (tSeq (tAsg te (gName i)) tz) D := fun σ H ⟨F, Ms, w⟩ => h σ F Ms H w _ fun x v F' H' p s r => k x p _ _ ⟨F', Ms, (w.step s).set i r⟩
theorem t_retP {P P' : α → Prop} (h : EP c Γ te τ P) (q : ∀ x v H', P' x → RetIs c τ x v H' → D.rt v H') (i : ∀ x, P x → P' x) : Tr c Γ (tRet te) D := fun σ H ⟨F, Ms, w⟩ => h σ F Ms H w _ fun x v F' H' p s r => q x v H' (i x p) ((w.step s).retIs r)
theorem EG.ep {P : α → Prop} (h : EG c Γ te τ x) (p : P x) : EP c Γ te τ P := fun σ F Ms H w Q q => h σ F Ms H w Q fun v F' H' s r => q x v F' H' p s r
theorem ep_call {ι : Type} {Γp : ι → List Spec} {o : ι → Out} {pre : ι → Prop} {E : XK} {tt : TA} {P : α → Prop} (a : ι) (ha : EA c Γ tt (Γp a)) (hp : pre a) (ho : o a = .retP τ P) : EP c Γ (tCall (Pm Γp o pre) [] E tt) τ P := fun σ F Ms H w Q q =>
  ha σ F Ms H w _ fun vs F1 H1 s1 r1 => by
    refine ⟨a, F1, hp, s1.fh, by rw [List.append_nil]; exact r1.up (Ex.refl _) (Ex.refl _), ?_⟩
    rw [ho]
    intro x v H' p r
    obtain ⟨G, s2, r2⟩ := r.stp
    exact q x v G H' p (s1.trans s2) r2
theorem Out.Sat.retP {Q : VK} {E : XK} {o : Out} {P : α → Prop} (s : o.Sat c Q E) (e : o = .retP τ P) : ∀ x v H', P x → RetIs c τ x v H' → Q v H' := by rw [e] at s; exact s
/-! ### what raises -/
def XG (c : Cw) (Γ : List Spec) (te : TE) (E : XK) (C : Addr) : Prop := ∀ σ F Ms H, Wd c Γ σ F Ms H → (∀ H', ExcOk c H' → E (.ref C) none H') → ∀ Q, te σ H Q
theorem Wd.exc {σ : L2.St} {F H : Hp} {Ms : Nat → Hp} (w : Wd c Γ σ F Ms H) : ExcOk c H := ⟨w.fr, w.dm⟩
section
variable {ι : Type} {Γp : ι → List Spec} {o : ι → Out} {pre : ι → Prop} {E : XK} {tt : TA} {B : Addr}
theorem xg_call (a : ι) (ha : EA c Γ tt (Γp a)) (hp : pre a) (ho : o a = .exc B) : XG c Γ (tCall (Pm Γp o pre) [] E tt) E B := fun σ F Ms H w h Q =>
  ha σ F Ms H w _ fun vs F1 H1 s1 r1 => by
    refine ⟨a, F1, hp, s1.fh, by rw [List.append_nil]; exact r1.up (Ex.refl _) (Ex.refl _), ?_⟩
    rw [ho]
    intro H' x
    have w1 := w.step s1
    exact h H' ⟨w1.fr.trans x.fr, fun a k => x.dm a (w1.dm a k)⟩
theorem xg_meth {m : Str} {b : Bk} {Ss : List Spec} (a : ι) (hb : EB C c Γ ta b) (ha : EA c Γ tt Ss) (hΓ : Γp a = .see (aBk C) b :: Ss) (hp : pre a) (ho : o a = .exc B) (h1 : ¬ m = "costs" := by decide +kernel) (h2 : ¬ m = "size" := by decide +kernel) :
    XG c Γ (tMeth C m (Pm Γp o pre) [] E ta tt) E B := fun σ F Ms H w h Q =>
  hb σ F Ms H w _ fun p d dx F1 H1 s1 B => ⟨p, dx, _, rfl, B.ob, flds_no _ _ h1 h2, ha σ F1 Ms H1 (w.step s1) _ fun vs F2 H2 s2 r2 => by
    have B2 := B.up s2.h
    refine ⟨a, F2, hp, s2.fh, ?_, ?_⟩
    · rw [List.append_nil, hΓ]
      exact ⟨⟨_, bkH C p d dx b, rfl, bkH_ex B2, p, d, dx, rfl, bkH_at B.ne⟩, r2⟩
    rw [ho]
    intro H' x
    have w1 := (w.step s1).step s2
    exact h H' ⟨w1.fr.trans x.fr, fun a k => x.dm a (w1.dm a k)⟩⟩
theorem xg_op1 {r : R2} (h : XG c Γ ta E B) : XG c Γ (tOp r ta tb) E B := fun σ F Ms H w x Q => h σ F Ms H w x _
theorem t_asgX {g : L2.TG} (h : XG c Γ te E B) (q : ∀ H', ExcOk c H' → E (.ref B) none H') : Tr c Γ (tSeq (tAsg te g) tz) D := fun σ H ⟨F, Ms, w⟩ => h σ F Ms H w q _
theorem t_dropX (h : XG c Γ te E B) (q : ∀ H', ExcOk c H' → E (.ref B) none H') : Tr c Γ (tSeq (tDrop te) tz) D := fun σ H ⟨F, Ms, w⟩ => h σ F Ms H w q _
theorem t_retX (h : XG c Γ te E B) (q : ∀ H', ExcOk c H' → E (.ref B) none H') : Tr c Γ (tRet te) D := fun σ H ⟨F, Ms, w⟩ => h σ F Ms H w q _
/-- raise X('..') -/
theorem t_raise (q : ∀ H', ExcOk c H' → E (.ref B) none H') : Tr c Γ (fun _ σ H => E (.ref B) none H) D := fun σ H h => q H h.exc
end
end
end HG

namespace HW
/-! ### sums over a list -/
section
variable {α β : Type}
def tot (f : α → Int) : List α → Int
  | [] => 0
  | x :: r => f x + tot f r
theorem tot_nil (f : α → Int) : tot f [] = 0 := rfl
theorem tot_cons (f : α → Int) (x : α) (r : List α) : tot f (x :: r) = f x + tot f r := rfl
theorem tot_append (f : α → Int) : ∀ (l m : List α), tot f (l ++ m) = tot f l + tot f m
  | [], m => by simp [tot]
  | x :: r, m => by
    show f x + tot f (r ++ m) = f x + tot f r + tot f m
    rw [tot_append f r m]; omega
theorem tot_congr {f g : α → Int} : ∀ {l : List α}, (∀ x ∈ l, f x = g x) → tot f l = tot g l
  | [], _ => rfl
  | x :: r, h => by
    show f x + tot f r = g x + tot g r
    rw [h x (List.mem_cons_self ..), tot_congr fun y hy => h y (List.mem_cons_of_mem _ hy)]
theorem tot_le {f g : α → Int} : ∀ {l : List α}, (∀ x ∈ l, f x ≤ g x) → tot f l ≤ tot g l
  | [], _ => Int.le_refl _
  | x :: r, h => by
    show f x + tot f r ≤ g x + tot g r
    have h1 := h x (List.mem_cons_self ..)
    have h2 := tot_le fun y hy => h y (List.mem_cons_of_mem _ hy)
    omega
theorem tot_zero {f : α → Int} {l : List α} (h : ∀ x ∈ l, f x = 0) : tot f l = 0 := by
  rw [tot_congr (g := fun _ => 0) h]
  induction l with
  | nil => rfl
  | cons x r ih => show (0 : Int) + tot _ r = 0; rw [ih fun y hy => h y (List.mem_cons_of_mem _ hy)]; rfl
theorem tot_nonneg {f : α → Int} {l : List α} (h : ∀ x ∈ l, 0 ≤ f x) : 0 ≤ tot f l := by
  have := tot_le (f := fun _ => 0) (g := f) (l := l) h
  rwa [tot_zero (f := fun _ => (0 : Int)) fun _ _ => rfl] at this
theorem tot_add (f g : α → Int) : ∀ l : List α, tot (fun x => f x + g x) l = tot f l + tot g l
  | [] => rfl
  | x :: r => by
    show f x + g x + tot _ r = f x + tot f r + (g x + tot g r)
    rw [tot_add f g r]; omega
theorem tot_mul (c : Int) (f : α → Int) : ∀ l : List α, tot (fun x => c * f x) l = c * tot f l
  | [] => by simp [tot]
  | x :: r => by
    show c * f x + tot _ r = c * (f x + tot f r)
    rw [tot_mul c f r, Int.mul_add]
theorem tot_map (f : β → Int) (g : α → β) : ∀ l : List α, tot f (l.map g) = tot (fun x => f (g x)) l
  | [] => rfl
  | x :: r => by
    show f (g x) + tot f (r.map g) = f (g x) + tot _ r
    rw [tot_map f g r]
theorem tot_sum (f : α → Int) : ∀ l : List α, (l.map f).sum = tot f l
  | [] => rfl
  | x :: r => by rw [List.map_cons, List.sum_cons, tot_sum f r]; rfl
theorem tot_perm {f : α → Int} {l m : List α} (h : l.Perm m) : tot f l = tot f m := by
  induction h with
  | nil => rfl
  | cons x _ ih => show f x + _ = f x + _; rw [ih]
  | swap x y l => show f y + (f x + tot f l) = f x + (f y + tot f l); omega
  | trans _ _ a b => rw [a, b]
/-- two sums, the one in the other -/
theorem tot_swap (f : α → β → Int) : ∀ (l : List α) (m : List β), tot (fun x => tot (f x) m) l = tot (fun y => tot (fun x => f x y) l) m
  | [], m => (tot_zero fun _ _ => rfl).symm
  | x :: r, m => by
    show tot (f x) m + tot _ r = tot (fun y => f x y + tot (fun x => f x y) r) m
    rw [tot_swap f r m, tot_add]
/-- a number of them, as a sum -/
theorem tot_count (p : α → Bool) (c : Int) : ∀ l : List α, tot (fun x => if p x = true then c else 0) l = c * (l.countP p : Nat)
  | [] => by simp [tot]
  | x :: r => by
    show (if p x = true then c else 0) + tot _ r = _
    rw [tot_count p c r, List.countP_cons]
    by_cases h : p x = true
    · rw [if_pos h, if_pos h, Int.natCast_add, Int.mul_add]; simp; omega
    · rw [if_neg h, if_neg h]; simp
theorem tot_filter (f : α → Int) (p : α → Bool) : ∀ {l : List α}, (∀ x ∈ l, p x = false → f x = 0) → tot f (l.filter p) = tot f l
  | [], _ => rfl
  | x :: r, h => by
    have ih := tot_filter f p fun y hy => h y (List.mem_cons_of_mem _ hy)
    by_cases e : p x = true
    · rw [List.filter_cons_of_pos e]; show f x + _ = f x + _; rw [ih]
    · rw [List.filter_cons_of_neg e, ih]
      show _ = f x + _
      rw [h x (List.mem_cons_self ..) (by simpa using e)]; omega
/-- one alone counts -/
theorem count_one {p : α → Bool} {a : α} : ∀ {l : List α}, l.Nodup → a ∈ l → p a = true → (∀ x ∈ l, p x = true → x = a) → l.countP p = 1
  | [], _, h, _, _ => by cases h
  | x :: r, hn, hm, ha, hu => by
    rw [List.countP_cons]
    have hn' := List.nodup_cons.mp hn
    by_cases e : x = a
    · subst e
      rw [if_pos ha]
      have : r.countP p = 0 := List.countP_eq_zero.mpr fun y hy hp => hn'.1 ((hu y (List.mem_cons_of_mem _ hy) hp) ▸ hy)
      omega
    · have hm' : a ∈ r := by
        cases hm with
        | head => exact absurd rfl e
        | tail _ h => exact h
      rw [if_neg fun hp => e (hu x (List.mem_cons_self ..) hp), count_one hn'.2 hm' ha fun y hy => hu y (List.mem_cons_of_mem _ hy)]
theorem count_pos_of {p : α → Bool} {l : List α} (h : l.countP p = 1) : ∃ x ∈ l, p x = true := List.countP_pos_iff.mp (by omega)
/-- of which one counts: two of them are the same -/
theorem count_uniq {p : α → Bool} {f : α → β} : ∀ {l : List α}, l.countP p = 1 → ∀ x ∈ l, ∀ y ∈ l, p x = true → p y = true → x = y
  | [], _, _, h, _, _, _, _ => by cases h
  | z :: r, h1, x, hx, y, hy, px, py => by
    rw [List.countP_cons] at h1
    by_cases e : p z = true
    · rw [if_pos e] at h1
      have h0 : r.countP p = 0 := by omega
      have no := List.countP_eq_zero.mp h0
      cases hx with
      | head => cases hy with
        | head => rfl
        | tail _ h => exact absurd py (no y h)
      | tail _ h => exact absurd px (no x h)
    · rw [if_neg e] at h1
      cases hx with
      | head => exact absurd px e
      | tail _ hx' => cases hy with
        | head => exact absurd py e
        | tail _ hy' => exact count_uniq (f := f) (by omega) x hx' y hy' px py
end
/-! ### rows, groups, places -/
abbrev Rw3 := Int × Int × Int
abbrev Price := List Int × Int
/-- a hearing from a to b enters g -/
def ent (a b : Int) (g : List Int) : Bool := decide (b ∈ g) && !decide (a ∈ g)
theorem ent_iff {a b : Int} {g : List Int} : ent a b g = true ↔ b ∈ g ∧ a ∉ g := by simp [ent]
def gp (gs : List (List Int)) (p : Nat) : List Int := gs.getD p []
theorem gp_get {gs : List (List Int)} {p : Nat} {g : List Int} (h : gs[p]? = some g) : gp gs p = g := by simp [gp, List.getD, h]
theorem gp_lt {gs : List (List Int)} {p : Nat} (h : p < gs.length) : gs[p]? = some (gp gs p) := by
  rw [List.getElem?_eq_getElem h, gp_get (List.getElem?_eq_getElem h)]
theorem gp_mem {gs : List (List Int)} {p : Nat} (h : p < gs.length) : gp gs p ∈ gs := List.mem_of_getElem? (gp_lt h)
theorem gp_out {gs : List (List Int)} {p : Nat} {t : Int} (h : t ∈ gp gs p) : p < gs.length := by
  by_cases e : p < gs.length
  · exact e
  · have : gp gs p = [] := by simp [gp, List.getD, List.getElem?_eq_none (Nat.le_of_not_lt e)]
    rw [this] at h; cases h
def pl (gs : List (List Int)) (t : Int) : Nat := gs.findIdx fun g => decide (t ∈ g)
structure Part (n : Int) (gs : List (List Int)) : Prop where
  root : gs[0]? = some [0]
  disj : gs.Pairwise fun g h => ∀ t ∈ g, t ∉ h
  cov : ∀ t : Int, 0 ≤ t → t < n → ∃ g ∈ gs, t ∈ g
  rng : ∀ g ∈ gs, ∀ t ∈ g, 0 ≤ t ∧ t < n
  srt : ∀ g ∈ gs, g.Pairwise (· < ·)
  ne : ∀ g ∈ gs, g ≠ []
section
variable {n : Int} {gs : List (List Int)}
theorem Part.pos (P : Part n gs) : 0 < gs.length := by
  have := P.root
  cases gs with
  | nil => cases this
  | cons _ _ => exact Nat.succ_pos _
theorem Part.g0 (P : Part n gs) : gp gs 0 = [0] := gp_get P.root
theorem Part.uniq (P : Part n gs) {p q : Nat} {t : Int} (hp : t ∈ gp gs p) (hq : t ∈ gp gs q) : p = q := by
  have lp := gp_out hp
  have lq := gp_out hq
  have key : ∀ {i j : Nat}, i < j → j < gs.length → t ∈ gp gs i → t ∈ gp gs j → False := fun {i j} hij hj hi hj' => by
    have d := List.pairwise_iff_getElem.mp P.disj i j (by omega) hj hij
    have e1 : gp gs i = gs[i] := gp_get (List.getElem?_eq_getElem (by omega))
    have e2 : gp gs j = gs[j] := gp_get (List.getElem?_eq_getElem hj)
    rw [e1] at hi; rw [e2] at hj'
    exact d t hi hj'
  rcases Nat.lt_trichotomy p q with h | h | h
  · exact (key h lq hp hq).elim
  · exact h
  · exact (key h lp hq hp).elim
theorem Part.pl_lt (P : Part n gs) {t : Int} (h0 : 0 ≤ t) (h1 : t < n) : pl gs t < gs.length := by
  obtain ⟨g, hg, ht⟩ := P.cov t h0 h1
  exact List.findIdx_lt_length.mpr ⟨g, hg, by simpa using ht⟩
theorem Part.pl_in (P : Part n gs) {t : Int} (h0 : 0 ≤ t) (h1 : t < n) : t ∈ gp gs (pl gs t) := by
  have h := P.pl_lt h0 h1
  have e := List.findIdx_getElem (p := fun g : List Int => decide (t ∈ g)) (w := h)
  have e2 : gp gs (pl gs t) = gs[pl gs t] := gp_get (List.getElem?_eq_getElem h)
  rw [e2]
  exact of_decide_eq_true e
theorem Part.rg (P : Part n gs) {p : Nat} {t : Int} (h : t ∈ gp gs p) : 0 ≤ t ∧ t < n := P.rng _ (gp_mem (gp_out h)) t h
theorem Part.pl_eq (P : Part n gs) {t : Int} {p : Nat} (h : t ∈ gp gs p) : pl gs t = p := P.uniq (P.pl_in (P.rg h).1 (P.rg h).2) h
theorem Part.mem_iff (P : Part n gs) {t : Int} {p : Nat} (h0 : 0 ≤ t) (h1 : t < n) : t ∈ gp gs p ↔ pl gs t = p :=
  ⟨P.pl_eq, fun e => e ▸ P.pl_in h0 h1⟩
theorem Part.pl0 (P : Part n gs) : pl gs 0 = 0 := P.pl_eq (by rw [P.g0]; exact List.mem_singleton.mpr rfl)
theorem Part.zero (P : Part n gs) {t : Int} (h0 : 0 ≤ t) (h1 : t < n) (e : pl gs t = 0) : t = 0 := by
  have := P.pl_in h0 h1
  rw [e, P.g0] at this
  exact List.mem_singleton.mp this
end
/-- the hearings at a level -/
structure RowsIn (n : Int) (rows : List Rw3) : Prop where
  a0 : ∀ r ∈ rows, 0 ≤ r.1 ∧ r.1 < n
  b0 : ∀ r ∈ rows, 1 ≤ r.2.1 ∧ r.2.1 < n
  c0 : ∀ r ∈ rows, 0 ≤ r.2.2
  uq : ∀ r ∈ rows, ∀ q ∈ rows, r.1 = q.1 → r.2.1 = q.2.1 → r.2.2 = q.2.2
/-- the cheapest that enters g -/
structure Pick (rows : List Rw3) (g : List Int) (r : Rw3) : Prop where
  mem : r ∈ rows
  en : ent r.1 r.2.1 g = true
  low : ∀ q ∈ rows, ent q.1 q.2.1 g = true → r.2.2 ≤ q.2.2
def les (gs : List (List Int)) (pk : Nat → Rw3) (rows : List Rw3) : List Rw3 :=
  (rows.filter fun r => decide (pl gs r.1 ≠ pl gs r.2.1)).map fun r => (r.1, r.2.1, r.2.2 - (pk (pl gs r.2.1)).2.2)
def paid (P : List Price) (a b : Int) : Int := tot (fun g : Price => if ent a b g.1 = true then g.2 else 0) P
theorem paid_append (P Q : List Price) (a b : Int) : paid (P ++ Q) a b = paid P a b + paid Q a b := tot_append _ _ _
/-- g is made of whole groups -/
def Uni (gs : List (List Int)) (g : List Int) : Prop := ∀ h ∈ gs, (∀ t ∈ h, t ∈ g) ∨ ∀ t ∈ h, t ∉ g
inductive Led (F : List Rw3) (gs : List (List Int)) : Nat → Prop
  | root : Led F gs 0
  | step {p q : Nat} (f : Rw3) : f ∈ F → f.2.1 ∈ gp gs p → f.1 ∈ gp gs q → Led F gs q → Led F gs p
/-- a group as point 5 has it -/
structure Grp (n : Int) (g : List Int) : Prop where
  ne : g ≠ []
  no0 : (0 : Int) ∉ g
  srt : g.Pairwise (· < ·)
  rng : ∀ t ∈ g, 0 ≤ t ∧ t < n
structure Lone (n : Int) (gs : List (List Int)) (rows : List Rw3) (g : List Int) : Prop where
  grp : Grp n g
  uni : Uni gs g
  no : ∀ r ∈ rows, ent r.1 r.2.1 g = false
/-- of two prices the earlier -/
def Nest (x y : Price) : Prop := (∀ t ∈ x.1, t ∉ y.1) ∨ (x.1 ≠ y.1 ∧ ∀ t ∈ x.1, t ∈ y.1)
structure Fam (n : Int) (gs : List (List Int)) (rows : List Rw3) (F : List Rw3) (P : List Price) : Prop where
  sub : ∀ f ∈ F, pl gs f.1 ≠ pl gs f.2.1 ∧ ∃ c, (f.1, f.2.1, c) ∈ rows
  cnt : ∀ p, p < gs.length → F.countP (fun f => decide (f.2.1 ∈ gp gs p)) = if p = 0 then 0 else 1
  led : ∀ p, p < gs.length → Led F gs p
  grp : ∀ x ∈ P, Grp n x.1 ∧ 0 < x.2 ∧ Uni gs x.1
  fea : ∀ r ∈ rows, paid P r.1 r.2.1 ≤ r.2.2
  tgt : ∀ f ∈ F, ∀ c, (f.1, f.2.1, c) ∈ rows → paid P f.1 f.2.1 = c
  once : ∀ x ∈ P, F.countP (fun f => ent f.1 f.2.1 x.1) = 1
  lam : P.Pairwise Nest
/-! ### one level -/
structure Level (n : Int) (gs : List (List Int)) (rows : List Rw3) (pk : Nat → Rw3) : Prop where
  part : Part n gs
  rin : RowsIn n rows
  pk : ∀ p, 1 ≤ p → p < gs.length → Pick rows (gp gs p) (pk p)
def price0 (gs : List (List Int)) (pk : Nat → Rw3) : List Price :=
  ((List.range' 1 (gs.length - 1)).filter fun p => decide (0 < (pk p).2.2)).map fun p => (gp gs p, (pk p).2.2)
def nx (gs : List (List Int)) (pk : Nat → Rw3) (p : Nat) : Nat := if p = 0 then 0 else pl gs (pk p).1
section
variable {n : Int} {gs : List (List Int)} {rows : List Rw3} {pk : Nat → Rw3}
theorem Level.pin (L : Level n gs rows pk) {p : Nat} (h1 : 1 ≤ p) (h2 : p < gs.length) : (pk p).2.1 ∈ gp gs p ∧ (pk p).1 ∉ gp gs p := ent_iff.mp (L.pk p h1 h2).en
theorem Level.ppl (L : Level n gs rows pk) {p : Nat} (h1 : 1 ≤ p) (h2 : p < gs.length) : pl gs (pk p).2.1 = p := L.part.pl_eq (L.pin h1 h2).1
theorem Level.psrc (L : Level n gs rows pk) {p : Nat} (h1 : 1 ≤ p) (h2 : p < gs.length) : pl gs (pk p).1 ≠ p := fun e => by
  have m := (L.pk p h1 h2).mem
  have z := L.part.pl_in (L.rin.a0 _ m).1 (L.rin.a0 _ m).2
  rw [e] at z
  exact (L.pin h1 h2).2 z
theorem Level.tpos (L : Level n gs rows pk) {t : Int} (h1 : 1 ≤ t) (h2 : t < n) : 1 ≤ pl gs t ∧ pl gs t < gs.length := by
  refine ⟨?_, L.part.pl_lt (by omega) h2⟩
  rcases Nat.eq_zero_or_pos (pl gs t) with e | e
  · have := L.part.zero (by omega) h2 e; omega
  · exact e
theorem Level.nx_lt (L : Level n gs rows pk) {p : Nat} (h2 : p < gs.length) : nx gs pk p < gs.length := by
  unfold nx
  split
  · exact L.part.pos
  · have m := (L.pk p (by omega) h2).mem
    exact L.part.pl_lt (L.rin.a0 _ m).1 (L.rin.a0 _ m).2
/-- a row enters a group of the level: its hearer's place -/
theorem Level.ent_gp (L : Level n gs rows pk) {a b : Int} (ha : 0 ≤ a ∧ a < n) (hb : 0 ≤ b ∧ b < n) (p : Nat) : ent a b (gp gs p) = true ↔ pl gs b = p ∧ pl gs a ≠ pl gs b := by
  rw [ent_iff, L.part.mem_iff hb.1 hb.2, L.part.mem_iff ha.1 ha.2]
  constructor
  · rintro ⟨e, h⟩; exact ⟨e, by omega⟩
  · rintro ⟨e, h⟩; exact ⟨e, by omega⟩
theorem Level.paid0 (L : Level n gs rows pk) {a b : Int} (ha : 0 ≤ a ∧ a < n) (hb : 1 ≤ b ∧ b < n) :
    paid (price0 gs pk) a b = if pl gs a = pl gs b then 0 else (pk (pl gs b)).2.2 := by
  have hp := L.tpos hb.1 hb.2
  unfold paid price0
  rw [tot_map, tot_filter]
  · by_cases e : pl gs a = pl gs b
    · rw [if_pos e]
      refine tot_zero fun p _ => ?_
      show (if ent a b (gp gs p) = true then _ else _) = _
      rw [if_neg]
      rw [L.ent_gp ha ⟨by omega, hb.2⟩]
      omega
    · rw [if_neg e]
      have q : ∀ p ∈ List.range' 1 (gs.length - 1), (if ent a b (gp gs p) = true then (pk p).2.2 else 0) = if (decide (p = pl gs b)) = true then (pk (pl gs b)).2.2 else 0 := fun p _ => by
        by_cases h : p = pl gs b
        · rw [if_pos ((L.ent_gp ha ⟨by omega, hb.2⟩ p).mpr ⟨h.symm, e⟩), if_pos (by simpa using h), h]
        · rw [if_neg fun z => h ((L.ent_gp ha ⟨by omega, hb.2⟩ p).mp z).1.symm, if_neg (by simpa using h)]
      show tot (fun p => if ent a b (gp gs p) = true then (pk p).2.2 else 0) _ = _
      rw [tot_congr q, tot_count, count_one (a := pl gs b) List.nodup_range' (List.mem_range'_1.mpr (by omega)) (by simp) (fun x _ hx => by simpa using hx)]
      simp
  · intro p hm h0
    show (if ent a b (gp gs p) = true then (pk p).2.2 else 0) = 0
    have hm' := List.mem_range'_1.mp hm
    have c := L.rin.c0 _ (L.pk p hm'.1 (by omega)).mem
    have h0' : ¬ 0 < (pk p).2.2 := by simpa using h0
    split <;> omega
theorem mem_price0 {x : Price} (h : x ∈ price0 gs pk) : ∃ p, 1 ≤ p ∧ p < gs.length ∧ 0 < (pk p).2.2 ∧ x = (gp gs p, (pk p).2.2) := by
  obtain ⟨p, hp, rfl⟩ := List.mem_map.mp h
  obtain ⟨h1, h2⟩ := List.mem_filter.mp hp
  have h1' := List.mem_range'_1.mp h1
  exact ⟨p, h1'.1, by omega, by simpa using h2, rfl⟩
theorem Level.grp0 (L : Level n gs rows pk) {p : Nat} (h1 : 1 ≤ p) (h2 : p < gs.length) : Grp n (gp gs p) :=
  ⟨L.part.ne _ (gp_mem h2), fun h => by have := L.part.pl_eq h; rw [L.part.pl0] at this; omega, L.part.srt _ (gp_mem h2), L.part.rng _ (gp_mem h2)⟩
theorem Part.uni_gp (P : Part n gs) (p : Nat) : Uni gs (gp gs p) := fun h hh => by
  obtain ⟨q, hq⟩ := List.mem_iff_getElem?.mp hh
  by_cases e : q = p
  · left; intro t ht; rw [← e, gp_get hq]; exact ht
  · right; intro t ht ht'
    exact e (P.uniq (by rw [gp_get hq]; exact ht) ht')
theorem Level.lam0 (L : Level n gs rows pk) : (price0 gs pk).Pairwise Nest := by
  unfold price0
  rw [List.pairwise_map]
  refine List.Pairwise.sublist List.filter_sublist ?_
  refine List.Pairwise.imp ?_ (List.pairwise_lt_range' (s := 1) (n := gs.length - 1))
  intro p q hpq
  left
  intro t hp hq
  have := L.part.uniq hp hq
  omega
theorem Level.cost_eq (L : Level n gs rows pk) {p : Nat} (h1 : 1 ≤ p) (h2 : p < gs.length) {c : Int} (h : ((pk p).1, (pk p).2.1, c) ∈ rows) : c = (pk p).2.2 :=
  L.rin.uq _ h _ (L.pk p h1 h2).mem rfl rfl
theorem Level.low (L : Level n gs rows pk) {r : Rw3} (hr : r ∈ rows) (hc : pl gs r.1 ≠ pl gs r.2.1) : (pk (pl gs r.2.1)).2.2 ≤ r.2.2 := by
  have hb := L.rin.b0 _ hr
  have ha := L.rin.a0 _ hr
  have hp := L.tpos hb.1 hb.2
  exact (L.pk _ hp.1 hp.2).low r hr ((L.ent_gp ha ⟨by omega, hb.2⟩ _).mpr ⟨rfl, hc⟩)
/-! ### no ring: the picks are a family -/
def iter (f : Nat → Nat) : Nat → Nat → Nat
  | 0, p => p
  | m + 1, p => iter f m (f p)
theorem Level.base (L : Level n gs rows pk) (hz : ∀ p, 1 ≤ p → p < gs.length → ∃ m, iter (nx gs pk) m p = 0) :
    Fam n gs rows ((List.range' 1 (gs.length - 1)).map pk) (price0 gs pk) where
  sub := fun f hf => by
    obtain ⟨p, hp, rfl⟩ := List.mem_map.mp hf
    have hp' := List.mem_range'_1.mp hp
    have m := (L.pk p hp'.1 (by omega)).mem
    refine ⟨?_, (pk p).2.2, m⟩
    rw [L.ppl hp'.1 (by omega)]
    exact L.psrc hp'.1 (by omega)
  cnt := fun p hp => by
    rw [List.countP_map]
    split
    · rename_i e
      refine List.countP_eq_zero.mpr fun q hq h => ?_
      have hq' := List.mem_range'_1.mp hq
      have h' : (pk q).2.1 ∈ gp gs p := by simpa using h
      have := L.part.uniq (L.pin hq'.1 (by omega)).1 h'
      omega
    · refine count_one (a := p) List.nodup_range' (List.mem_range'_1.mpr (by omega)) ?_ ?_
      · have := (L.pin (p := p) (by omega) hp).1
        simpa using this
      · intro q hq h
        have hq' := List.mem_range'_1.mp hq
        have h' : (pk q).2.1 ∈ gp gs p := by simpa using h
        exact L.part.uniq (L.pin hq'.1 (by omega)).1 h'
  led := fun p hp => by
    have key : ∀ m p, p < gs.length → iter (nx gs pk) m p = 0 → Led ((List.range' 1 (gs.length - 1)).map pk) gs p := by
      intro m
      induction m with
      | zero => intro p _ e; have e' : p = 0 := e; rw [e']; exact .root
      | succ m ih =>
        intro p hp e
        by_cases h0 : p = 0
        · rw [h0]; exact .root
        · have l := ih (nx gs pk p) (L.nx_lt hp) e
          have mm := (L.pk p (by omega) hp).mem
          refine .step (pk p) (List.mem_map.mpr ⟨p, List.mem_range'_1.mpr (by omega), rfl⟩) (L.pin (by omega) hp).1 ?_ l
          have en : nx gs pk p = pl gs (pk p).1 := if_neg h0
          rw [en]
          exact L.part.pl_in (L.rin.a0 _ mm).1 (L.rin.a0 _ mm).2
    by_cases h0 : p = 0
    · rw [h0]; exact .root
    · obtain ⟨m, e⟩ := hz p (by omega) hp
      exact key m p hp e
  grp := fun x hx => by
    obtain ⟨p, h1, h2, h3, rfl⟩ := mem_price0 hx
    exact ⟨L.grp0 h1 h2, h3, L.part.uni_gp p⟩
  fea := fun r hr => by
    have hb := L.rin.b0 _ hr
    rw [L.paid0 (L.rin.a0 _ hr) hb]
    split
    · exact L.rin.c0 _ hr
    · rename_i h; exact L.low hr h
  tgt := fun f hf c hc => by
    obtain ⟨p, hp, rfl⟩ := List.mem_map.mp hf
    have hp' := List.mem_range'_1.mp hp
    have m := (L.pk p hp'.1 (by omega)).mem
    rw [L.paid0 (L.rin.a0 _ m) (L.rin.b0 _ m), L.ppl hp'.1 (by omega), if_neg (L.psrc hp'.1 (by omega))]
    exact (L.cost_eq hp'.1 (by omega) hc).symm
  once := fun x hx => by
    obtain ⟨p, h1, h2, h3, rfl⟩ := mem_price0 hx
    rw [List.countP_map]
    refine count_one (a := p) List.nodup_range' (List.mem_range'_1.mpr (by omega)) (L.pk p h1 h2).en ?_
    intro q hq h
    have hq' := List.mem_range'_1.mp hq
    have h' : ent (pk q).1 (pk q).2.1 (gp gs p) = true := h
    exact L.part.uniq (L.pin hq'.1 (by omega)).1 (ent_iff.mp h').1
  lam := L.lam0
end


/-! ### a ring, made one group -/
def wid (gs : List (List Int)) (ring : List Nat) (W : List Int) : List (List Int) :=
  ((List.range gs.length).filter fun p => !ring.contains p).map (gp gs) ++ [W]
structure Ring (gs : List (List Int)) (pk : Nat → Rw3) (ring : List Nat) : Prop where
  ne : ring ≠ []
  nd : ring.Nodup
  rg : ∀ p ∈ ring, 1 ≤ p ∧ p < gs.length
  cl : ∀ p ∈ ring, nx gs pk p ∈ ring
  go : ∀ p ∈ ring, ∀ q ∈ ring, ∃ m, iter (nx gs pk) m p = q
structure Whole (gs : List (List Int)) (ring : List Nat) (W : List Int) : Prop where
  mem : ∀ t, t ∈ W ↔ ∃ p ∈ ring, t ∈ gp gs p
  srt : W.Pairwise (· < ·)
section
variable {n : Int} {gs : List (List Int)} {rows : List Rw3} {pk : Nat → Rw3} {ring : List Nat} {W : List Int}
theorem pick_of_mem (L : Level n gs rows pk) (R : Ring gs pk ring) {p : Nat} (h : p ∈ ring) : Pick rows (gp gs p) (pk p) := L.pk p (R.rg p h).1 (R.rg p h).2
theorem wid_last : (wid gs ring W)[((List.range gs.length).filter fun p => !ring.contains p).length]? = some W := by
  unfold wid
  rw [List.getElem?_append_right (by simp)]
  simp
theorem wid_len : (wid gs ring W).length = ((List.range gs.length).filter fun p => !ring.contains p).length + 1 := by simp [wid]
theorem mem_wid {h : List Int} : h ∈ wid gs ring W ↔ (∃ p, p < gs.length ∧ p ∉ ring ∧ h = gp gs p) ∨ h = W := by
  unfold wid
  rw [List.mem_append, List.mem_map, List.mem_singleton]
  constructor
  · rintro (⟨p, hp, rfl⟩ | e)
    · obtain ⟨h1, h2⟩ := List.mem_filter.mp hp
      exact .inl ⟨p, List.mem_range.mp h1, by simpa using h2, rfl⟩
    · exact .inr e
  · rintro (⟨p, h1, h2, rfl⟩ | e)
    · exact .inl ⟨p, List.mem_filter.mpr ⟨List.mem_range.mpr h1, by simpa using h2⟩, rfl⟩
    · exact .inr e
theorem part_wid (P : Part n gs) (rg : ∀ p ∈ ring, 1 ≤ p ∧ p < gs.length) (ne : ring ≠ []) (Wh : Whole gs ring W) : Part n (wid gs ring W) where
  root := by
    obtain ⟨k, hk⟩ : ∃ k, gs.length = k + 1 := ⟨gs.length - 1, by have := P.pos; omega⟩
    have h0 : (!ring.contains 0) = true := by
      cases e : ring.contains 0 with
      | false => rfl
      | true => have := (rg 0 (by simpa using e)).1; omega
    unfold wid
    rw [hk, List.range_succ_eq_map, List.filter_cons_of_pos (p := fun p => !ring.contains p) h0, List.map_cons, P.g0]
    rfl
  disj := by
    unfold wid
    rw [List.pairwise_append]
    refine ⟨?_, by simp, ?_⟩
    · rw [List.pairwise_map]
      refine List.Pairwise.sublist List.filter_sublist ?_
      refine List.Pairwise.imp ?_ List.pairwise_lt_range
      intro p q hpq t hp hq
      have := P.uniq hp hq
      omega
    · intro g hg h hh t ht ht'
      rw [List.mem_singleton.mp hh] at ht'
      obtain ⟨p, hp, rfl⟩ := List.mem_map.mp hg
      obtain ⟨q, hq, hq'⟩ := (Wh.mem t).mp ht'
      have e := P.uniq ht hq'
      obtain ⟨_, h2⟩ := List.mem_filter.mp hp
      rw [e] at h2
      simp [hq] at h2
  cov := fun t h0 h1 => by
    have hp := P.pl_in h0 h1
    by_cases e : pl gs t ∈ ring
    · exact ⟨W, mem_wid.mpr (.inr rfl), (Wh.mem t).mpr ⟨_, e, hp⟩⟩
    · exact ⟨_, mem_wid.mpr (.inl ⟨_, P.pl_lt h0 h1, e, rfl⟩), hp⟩
  rng := fun g hg t ht => by
    rcases mem_wid.mp hg with ⟨p, hp, _, rfl⟩ | rfl
    · exact P.rg ht
    · obtain ⟨q, hq, hq'⟩ := (Wh.mem t).mp ht
      exact P.rg hq'
  srt := fun g hg => by
    rcases mem_wid.mp hg with ⟨p, hp, _, rfl⟩ | rfl
    · exact P.srt _ (gp_mem hp)
    · exact Wh.srt
  ne := fun g hg => by
    rcases mem_wid.mp hg with ⟨p, hp, _, rfl⟩ | rfl
    · exact P.ne _ (gp_mem hp)
    · obtain ⟨q, hq⟩ := List.exists_mem_of_ne_nil _ ne
      obtain ⟨t, ht⟩ := List.exists_mem_of_ne_nil _ (P.ne _ (gp_mem (rg q hq).2))
      exact List.ne_nil_of_mem ((Wh.mem t).mpr ⟨q, hq, ht⟩)
theorem wid_shorter (R : Ring gs pk ring) (hne : ∀ p ∈ ring, nx gs pk p ≠ p) : (wid gs ring W).length < gs.length := by
  obtain ⟨p, hp⟩ := List.exists_mem_of_ne_nil _ R.ne
  have hq := R.cl p hp
  have hpq := hne p hp
  have nd : (p :: nx gs pk p :: (List.range gs.length).filter fun p => !ring.contains p).Nodup := by
    rw [List.nodup_cons, List.nodup_cons]
    refine ⟨?_, ?_, (List.nodup_range).sublist List.filter_sublist⟩
    · intro h
      rcases List.mem_cons.mp h with h | h
      · exact hpq h.symm
      · have := (List.mem_filter.mp h).2; simp [hp] at this
    · intro h
      have := (List.mem_filter.mp h).2; simp [hq] at this
  have sub : (p :: nx gs pk p :: (List.range gs.length).filter fun p => !ring.contains p) ⊆ List.range gs.length := by
    intro x hx
    cases hx with
    | head => exact List.mem_range.mpr (R.rg p hp).2
    | tail _ hx => cases hx with
      | head => exact List.mem_range.mpr (R.rg _ hq).2
      | tail _ hx => exact (List.mem_filter.mp hx).1
  have := nd.length_le_of_subset sub
  simp only [List.length_cons, List.length_range] at this
  rw [wid_len]; omega
/-- same group -/
theorem wid_same (P : Part n gs) (Pw : Part n (wid gs ring W)) (Wh : Whole gs ring W) {a b : Int} (ha : 0 ≤ a ∧ a < n) (hb : 0 ≤ b ∧ b < n) (e : pl gs a = pl gs b) : pl (wid gs ring W) a = pl (wid gs ring W) b := by
  have ia := P.pl_in ha.1 ha.2
  have ib := P.pl_in hb.1 hb.2
  rw [← e] at ib
  by_cases h : pl gs a ∈ ring
  · have wa := (Wh.mem a).mpr ⟨_, h, ia⟩
    have wb := (Wh.mem b).mpr ⟨_, h, ib⟩
    have hl := gp_get (wid_last (gs := gs) (ring := ring) (W := W))
    rw [Pw.pl_eq (hl.symm ▸ wa), Pw.pl_eq (hl.symm ▸ wb)]
  · obtain ⟨Q, hQ⟩ := List.mem_iff_getElem?.mp (mem_wid (W := W).mpr (.inl ⟨_, P.pl_lt ha.1 ha.2, h, rfl⟩))
    have hl := gp_get hQ
    rw [Pw.pl_eq (hl.symm ▸ ia), Pw.pl_eq (hl.symm ▸ ib)]
theorem uni_down (P : Part n gs) (Wh : Whole gs ring W) {g : List Int} (u : Uni (wid gs ring W) g) : Uni gs g := fun h hh => by
  obtain ⟨p, hp⟩ := List.mem_iff_getElem?.mp hh
  have e := gp_get hp
  have hlt : p < gs.length := (List.getElem?_eq_some_iff.mp hp).1
  by_cases hr : p ∈ ring
  · rcases u W (mem_wid.mpr (.inr rfl)) with z | z
    · exact .inl fun t ht => z t ((Wh.mem t).mpr ⟨p, hr, e ▸ ht⟩)
    · exact .inr fun t ht => z t ((Wh.mem t).mpr ⟨p, hr, e ▸ ht⟩)
  · exact u h (mem_wid.mpr (.inl ⟨p, hlt, hr, e.symm⟩))
/-- a hearing within a group enters nothing that is made of groups -/
theorem uni_no (P : Part n gs) {g : List Int} (u : Uni gs g) {a b : Int} (ha : 0 ≤ a ∧ a < n) (hb : 0 ≤ b ∧ b < n) (e : pl gs a = pl gs b) : ent a b g = false := by
  cases h : ent a b g with
  | false => rfl
  | true =>
    obtain ⟨h1, h2⟩ := ent_iff.mp h
    have ia := P.pl_in ha.1 ha.2
    have ib := P.pl_in hb.1 hb.2
    rw [← e] at ib
    rcases u _ (gp_mem (P.pl_lt ha.1 ha.2)) with z | z
    · exact absurd (z a ia) h2
    · exact absurd h1 (z b ib)
theorem paid_no {Q : List Price} {a b : Int} (h : ∀ x ∈ Q, ent a b x.1 = false) : paid Q a b = 0 :=
  tot_zero fun x hx => by rw [if_neg (by rw [h x hx]; exact Bool.false_ne_true)]
theorem mem_les {r : Rw3} : r ∈ les gs pk rows ↔ ∃ q ∈ rows, pl gs q.1 ≠ pl gs q.2.1 ∧ r = (q.1, q.2.1, q.2.2 - (pk (pl gs q.2.1)).2.2) := by
  unfold les
  rw [List.mem_map]
  constructor
  · rintro ⟨q, hq, rfl⟩
    obtain ⟨h1, h2⟩ := List.mem_filter.mp hq
    exact ⟨q, h1, by simpa using h2, rfl⟩
  · rintro ⟨q, h1, h2, rfl⟩
    exact ⟨q, List.mem_filter.mpr ⟨h1, by simpa using h2⟩, rfl⟩
theorem Level.rin_les (L : Level n gs rows pk) : RowsIn n (les gs pk rows) where
  a0 := fun r hr => by obtain ⟨q, h1, _, rfl⟩ := mem_les.mp hr; exact L.rin.a0 q h1
  b0 := fun r hr => by obtain ⟨q, h1, _, rfl⟩ := mem_les.mp hr; exact L.rin.b0 q h1
  c0 := fun r hr => by
    obtain ⟨q, h1, h2, rfl⟩ := mem_les.mp hr
    have := L.low h1 h2
    show 0 ≤ q.2.2 - _
    omega
  uq := fun r hr s hs e1 e2 => by
    obtain ⟨q, h1, h2, rfl⟩ := mem_les.mp hr
    obtain ⟨q', h1', h2', rfl⟩ := mem_les.mp hs
    have e1' : q.1 = q'.1 := e1
    have e2' : q.2.1 = q'.2.1 := e2
    have := L.rin.uq q h1 q' h1' e1' e2'
    show q.2.2 - _ = q'.2.2 - _
    rw [this, e2']
theorem Level.lone (L : Level n gs rows pk) (Wh : Whole gs ring W) {g : List Int} (h : Lone n (wid gs ring W) (les gs pk rows) g) : Lone n gs rows g where
  grp := h.grp
  uni := uni_down L.part Wh h.uni
  no := fun r hr => by
    have ha := L.rin.a0 _ hr
    have hb := L.rin.b0 _ hr
    by_cases e : pl gs r.1 = pl gs r.2.1
    · exact uni_no L.part (uni_down L.part Wh h.uni) ha ⟨by omega, hb.2⟩ e
    · exact h.no (r.1, r.2.1, r.2.2 - (pk (pl gs r.2.1)).2.2) (mem_les.mpr ⟨r, hr, e, rfl⟩)
theorem lone_here (P : Part n gs) {p : Nat} (h1 : 1 ≤ p) (h2 : p < gs.length) (h : ∀ r ∈ rows, ent r.1 r.2.1 (gp gs p) = false) : Lone n gs rows (gp gs p) where
  grp := ⟨P.ne _ (gp_mem h2), fun h => by have := P.pl_eq h; rw [P.pl0] at this; omega, P.srt _ (gp_mem h2), P.rng _ (gp_mem h2)⟩
  uni := P.uni_gp p
  no := h
/-- the picks of the ring but the one into the group that is entered -/
def ringRows (gs : List (List Int)) (pk : Nat → Rw3) (ring : List Nat) (e : Int) : List Rw3 := (ring.filter fun p => !decide (e ∈ gp gs p)).map pk
theorem mem_ringRows {e : Int} {f : Rw3} : f ∈ ringRows gs pk ring e ↔ ∃ p ∈ ring, e ∉ gp gs p ∧ f = pk p := by
  unfold ringRows
  rw [List.mem_map]
  constructor
  · rintro ⟨p, hp, rfl⟩
    obtain ⟨h1, h2⟩ := List.mem_filter.mp hp
    exact ⟨p, h1, by simpa using h2, rfl⟩
  · rintro ⟨p, h1, h2, rfl⟩
    exact ⟨p, List.mem_filter.mpr ⟨h1, by simpa using h2⟩, rfl⟩
theorem Level.step (L : Level n gs rows pk) (R : Ring gs pk ring) (Wh : Whole gs ring W) {F : List Rw3} {P : List Price} (H : Fam n (wid gs ring W) (les gs pk rows) F P)
    {f0 : Rw3} (hf0 : f0 ∈ F) (he : f0.2.1 ∈ W) : Fam n gs rows (F ++ ringRows gs pk ring f0.2.1) (price0 gs pk ++ P) := by
  have Pw : Part n (wid gs ring W) := part_wid L.part R.rg R.ne Wh
  have lastW := gp_get (wid_last (gs := gs) (ring := ring) (W := W))
  have rowsF : ∀ f ∈ F, (0 ≤ f.1 ∧ f.1 < n) ∧ (1 ≤ f.2.1 ∧ f.2.1 < n) ∧ pl gs f.1 ≠ pl gs f.2.1 := fun f hf => by
    obtain ⟨h1, c, h2⟩ := H.sub f hf
    obtain ⟨q, hq, h3, e⟩ := mem_les.mp h2
    have e1 : f.1 = q.1 := congrArg (·.1) e
    have e2 : f.2.1 = q.2.1 := congrArg (·.2.1) e
    rw [e1, e2]
    exact ⟨L.rin.a0 q hq, L.rin.b0 q hq, h3⟩
  have rowsR : ∀ p ∈ ring, (0 ≤ (pk p).1 ∧ (pk p).1 < n) ∧ (1 ≤ (pk p).2.1 ∧ (pk p).2.1 < n) := fun p hp =>
    ⟨L.rin.a0 _ (pick_of_mem L R hp).mem, L.rin.b0 _ (pick_of_mem L R hp).mem⟩
  -- the place that is entered
  obtain ⟨pe, hpe, hpe'⟩ := (Wh.mem _).mp he
  have cntW : F.countP (fun f => decide (f.2.1 ∈ W)) = 1 := by
    have h := H.cnt ((List.range gs.length).filter fun p => !ring.contains p).length (by rw [wid_len]; omega)
    rw [lastW] at h
    rw [h, if_neg]
    intro z
    have z1 := Pw.g0
    rw [← z, lastW] at z1
    have h0 : (0 : Int) ∈ W := by rw [z1]; exact List.mem_singleton.mpr rfl
    obtain ⟨q, hq, hq'⟩ := (Wh.mem _).mp h0
    have := L.part.pl_eq hq'
    rw [L.part.pl0] at this
    have := (R.rg q hq).1
    omega
  have onlyW : ∀ f ∈ F, f.2.1 ∈ W → f = f0 := fun f hf hw => count_uniq (f := fun x => x) cntW f hf f0 hf0 (by simpa using hw) (by simpa using he)
  -- a ring's pick lies within W
  have inW : ∀ p ∈ ring, (pk p).1 ∈ W ∧ (pk p).2.1 ∈ W := fun p hp => by
    have rg := R.rg p hp
    refine ⟨(Wh.mem _).mpr ⟨_, R.cl p hp, ?_⟩, (Wh.mem _).mpr ⟨p, hp, (L.pin rg.1 rg.2).1⟩⟩
    have e : nx gs pk p = pl gs (pk p).1 := if_neg (by omega)
    rw [e]
    exact L.part.pl_in (rowsR p hp).1.1 (rowsR p hp).1.2
  have noR : ∀ p ∈ ring, ∀ x ∈ P, ent (pk p).1 (pk p).2.1 x.1 = false := fun p hp x hx => by
    cases h : ent (pk p).1 (pk p).2.1 x.1 with
    | false => rfl
    | true =>
      obtain ⟨h1, h2⟩ := ent_iff.mp h
      rcases (H.grp x hx).2.2 W (mem_wid.mpr (.inr rfl)) with z | z
      · exact absurd (z _ (inW p hp).1) h2
      · exact absurd h1 (z _ (inW p hp).2)
  have sub : ∀ f ∈ F ++ ringRows gs pk ring f0.2.1, pl gs f.1 ≠ pl gs f.2.1 ∧ ∃ c, (f.1, f.2.1, c) ∈ rows := fun f hf => by
    rcases List.mem_append.mp hf with hf | hf
    · obtain ⟨h1, c, h2⟩ := H.sub f hf
      obtain ⟨q, hq, h3, e⟩ := mem_les.mp h2
      have e1 : f.1 = q.1 := congrArg (·.1) e
      have e2 : f.2.1 = q.2.1 := congrArg (·.2.1) e
      exact ⟨(rowsF f hf).2.2, q.2.2, by rw [e1, e2]; exact hq⟩
    · obtain ⟨p, hp, _, rfl⟩ := mem_ringRows.mp hf
      have rg := R.rg p hp
      refine ⟨?_, _, (pick_of_mem L R hp).mem⟩
      rw [L.ppl rg.1 rg.2]
      exact L.psrc rg.1 rg.2
  have rng : ∀ f ∈ F ++ ringRows gs pk ring f0.2.1, (0 ≤ f.1 ∧ f.1 < n) ∧ (1 ≤ f.2.1 ∧ f.2.1 < n) := fun f hf => by
    obtain ⟨_, c, h⟩ := sub f hf
    exact ⟨L.rin.a0 (f.1, f.2.1, c) h, L.rin.b0 (f.1, f.2.1, c) h⟩
  have cnt : ∀ p, p < gs.length → (F ++ ringRows gs pk ring f0.2.1).countP (fun f => decide (f.2.1 ∈ gp gs p)) = if p = 0 then 0 else 1 := fun p hp => by
    rw [List.countP_append]
    by_cases hr : p ∈ ring
    · have rg := R.rg p hr
      rw [if_neg (by omega)]
      by_cases ep : p = pe
      · subst ep
        have h1 : F.countP (fun f => decide (f.2.1 ∈ gp gs p)) = 1 := by
          have le : F.countP (fun f => decide (f.2.1 ∈ gp gs p)) ≤ F.countP (fun f => decide (f.2.1 ∈ W)) := by
            refine List.countP_mono_left fun f _ h => ?_
            have h' : f.2.1 ∈ gp gs p := by simpa using h
            simpa using (Wh.mem _).mpr ⟨p, hr, h'⟩
          have ge : 0 < F.countP (fun f => decide (f.2.1 ∈ gp gs p)) := List.countP_pos_iff.mpr ⟨f0, hf0, by simpa using hpe'⟩
          omega
        have h2 : (ringRows gs pk ring f0.2.1).countP (fun f => decide (f.2.1 ∈ gp gs p)) = 0 := by
          refine List.countP_eq_zero.mpr fun f hf h => ?_
          obtain ⟨q, hq, hq', rfl⟩ := mem_ringRows.mp hf
          have h' : (pk q).2.1 ∈ gp gs p := by simpa using h
          have rq := R.rg q hq
          have e := L.part.uniq (L.pin rq.1 rq.2).1 h'
          rw [e] at hq'
          exact hq' hpe'
        omega
      · have h1 : F.countP (fun f => decide (f.2.1 ∈ gp gs p)) = 0 := by
          refine List.countP_eq_zero.mpr fun f hf h => ?_
          have h' : f.2.1 ∈ gp gs p := by simpa using h
          have e := onlyW f hf ((Wh.mem _).mpr ⟨p, hr, h'⟩)
          rw [e] at h'
          exact ep (L.part.uniq h' hpe')
        have h2 : (ringRows gs pk ring f0.2.1).countP (fun f => decide (f.2.1 ∈ gp gs p)) = 1 := by
          unfold ringRows
          rw [List.countP_map]
          refine count_one (a := p) (R.nd.sublist List.filter_sublist) (List.mem_filter.mpr ⟨hr, ?_⟩) ?_ ?_
          · have : f0.2.1 ∉ gp gs p := fun z => ep (L.part.uniq z hpe')
            simpa using this
          · have := (L.pin rg.1 rg.2).1
            simpa using this
          · intro q hq h
            have hq1 := (List.mem_filter.mp hq).1
            have rq := R.rg q hq1
            have h' : (pk q).2.1 ∈ gp gs p := by simpa using h
            exact L.part.uniq (L.pin rq.1 rq.2).1 h'
        omega
    · obtain ⟨Q, hQ⟩ := List.mem_iff_getElem?.mp (mem_wid (W := W).mpr (.inl ⟨p, hp, hr, rfl⟩))
      have eQ := gp_get hQ
      have h1 := H.cnt Q (List.getElem?_eq_some_iff.mp hQ).1
      rw [eQ] at h1
      have h2 : (ringRows gs pk ring f0.2.1).countP (fun f => decide (f.2.1 ∈ gp gs p)) = 0 := by
        refine List.countP_eq_zero.mpr fun f hf h => ?_
        obtain ⟨q, hq, _, rfl⟩ := mem_ringRows.mp hf
        have h' : (pk q).2.1 ∈ gp gs p := by simpa using h
        have rq := R.rg q hq
        have e := L.part.uniq (L.pin rq.1 rq.2).1 h'
        exact hr (e ▸ hq)
      rw [h1, h2]
      have z : Q = 0 ↔ p = 0 := by
        constructor
        · rintro rfl
          rw [Pw.g0] at eQ
          exact L.part.uniq (t := 0) (by rw [← eQ]; exact List.mem_singleton.mpr rfl) (by rw [L.part.g0]; exact List.mem_singleton.mpr rfl)
        · rintro rfl
          rw [L.part.g0] at eQ
          exact Pw.uniq (t := 0) (by rw [eQ]; exact List.mem_singleton.mpr rfl) (by rw [Pw.g0]; exact List.mem_singleton.mpr rfl)
      by_cases q0 : Q = 0
      · rw [if_pos q0, if_pos (z.mp q0)]
      · rw [if_neg q0, if_neg fun w => q0 (z.mpr w)]
  have ringLed : Led (F ++ ringRows gs pk ring f0.2.1) gs pe → ∀ p ∈ ring, Led (F ++ ringRows gs pk ring f0.2.1) gs p := fun l => by
    have key : ∀ m p, p ∈ ring → iter (nx gs pk) m p = pe → Led (F ++ ringRows gs pk ring f0.2.1) gs p := by
      intro m
      induction m with
      | zero => intro p _ e; have e' : p = pe := e; rw [e']; exact l
      | succ m ih =>
        intro p hp e
        by_cases ep : p = pe
        · rw [ep]; exact l
        · have rg := R.rg p hp
          have l' := ih (nx gs pk p) (R.cl p hp) e
          refine .step (pk p) (List.mem_append_right _ (mem_ringRows.mpr ⟨p, hp, fun z => ep (L.part.uniq z hpe'), rfl⟩)) (L.pin rg.1 rg.2).1 ?_ l'
          have en : nx gs pk p = pl gs (pk p).1 := if_neg (by omega)
          rw [en]
          exact L.part.pl_in (rowsR p hp).1.1 (rowsR p hp).1.2
    intro p hp
    obtain ⟨m, e⟩ := R.go p hp pe hpe
    exact key m p hp e
  have key1 : ∀ Q, Led F (wid gs ring W) Q → (∀ p, gp (wid gs ring W) Q = gp gs p → p < gs.length → Led (F ++ ringRows gs pk ring f0.2.1) gs p) ∧ (gp (wid gs ring W) Q = W → Led (F ++ ringRows gs pk ring f0.2.1) gs pe) := fun Q l => by
    induction l with
    | root =>
      constructor
      · intro p e hp
        rw [Pw.g0] at e
        have : p = 0 := L.part.uniq (t := 0) (by rw [← e]; exact List.mem_singleton.mpr rfl) (by rw [L.part.g0]; exact List.mem_singleton.mpr rfl)
        rw [this]; exact .root
      · intro e
        rw [Pw.g0] at e
        have h0 : (0 : Int) ∈ W := by rw [← e]; exact List.mem_singleton.mpr rfl
        obtain ⟨q, hq, hq'⟩ := (Wh.mem _).mp h0
        have := L.part.pl_eq hq'
        rw [L.part.pl0] at this
        have := (R.rg q hq).1
        omega
    | step f hf hb ha _ ih =>
      have src : ∃ q, f.1 ∈ gp gs q ∧ Led (F ++ ringRows gs pk ring f0.2.1) gs q := by
        rcases mem_wid.mp (gp_mem (gp_out ha)) with ⟨q, hq, _, e⟩ | e
        · exact ⟨q, e ▸ ha, ih.1 q e hq⟩
        · have hw : f.1 ∈ W := e ▸ ha
          obtain ⟨q, hq, hq'⟩ := (Wh.mem _).mp hw
          exact ⟨q, hq', ringLed (ih.2 e) q hq⟩
      obtain ⟨q, hq, lq⟩ := src
      constructor
      · intro p e hp
        exact .step f (List.mem_append_left _ hf) (e ▸ hb) hq lq
      · intro e
        have ef := onlyW f hf (e ▸ hb)
        exact .step f (List.mem_append_left _ hf) (by rw [ef]; exact hpe') hq lq
  have led : ∀ p, p < gs.length → Led (F ++ ringRows gs pk ring f0.2.1) gs p := fun p hp => by
    by_cases hr : p ∈ ring
    · exact ringLed ((key1 _ (H.led _ (by rw [wid_len]; exact Nat.lt_succ_self _))).2 lastW) p hr
    · obtain ⟨Q, hQ⟩ := List.mem_iff_getElem?.mp (mem_wid (W := W).mpr (.inl ⟨p, hp, hr, rfl⟩))
      exact (key1 Q (H.led Q (List.getElem?_eq_some_iff.mp hQ).1)).1 p (gp_get hQ) hp
  refine ⟨sub, cnt, led, ?_, ?_, ?_, ?_, ?_⟩
  · intro x hx
    rcases List.mem_append.mp hx with hx | hx
    · obtain ⟨p, h1, h2, h3, rfl⟩ := mem_price0 hx
      exact ⟨L.grp0 h1 h2, h3, L.part.uni_gp p⟩
    · obtain ⟨h1, h2, h3⟩ := H.grp x hx
      exact ⟨h1, h2, uni_down L.part Wh h3⟩
  · intro r hr
    have ha := L.rin.a0 _ hr
    have hb := L.rin.b0 _ hr
    rw [paid_append, L.paid0 ha hb]
    split
    · rename_i e
      rw [paid_no fun x hx => uni_no L.part (uni_down L.part Wh (H.grp x hx).2.2) ha ⟨by omega, hb.2⟩ e]
      have := L.rin.c0 _ hr
      omega
    · rename_i e
      have := H.fea _ (mem_les.mpr ⟨r, hr, e, rfl⟩)
      have this' : paid P r.1 r.2.1 ≤ r.2.2 - (pk (pl gs r.2.1)).2.2 := this
      omega
  · intro f hf c hc
    have rg := rng f hf
    rw [paid_append, L.paid0 rg.1 rg.2, if_neg (sub f hf).1]
    rcases List.mem_append.mp hf with hf' | hf'
    · have := H.tgt f hf' _ (mem_les.mpr ⟨_, hc, (sub f hf).1, rfl⟩)
      have this' : paid P f.1 f.2.1 = c - (pk (pl gs f.2.1)).2.2 := this
      omega
    · obtain ⟨p, hp, _, rfl⟩ := mem_ringRows.mp hf'
      have rp := R.rg p hp
      rw [paid_no (noR p hp), L.ppl rp.1 rp.2, L.cost_eq rp.1 rp.2 hc]
      omega
  · intro x hx
    rcases List.mem_append.mp hx with hx | hx
    · obtain ⟨p, h1, h2, h3, rfl⟩ := mem_price0 hx
      have := cnt p h2
      rw [if_neg (by omega)] at this
      rw [← this]
      refine List.countP_congr fun f hf => ?_
      have rg := rng f hf
      rw [L.ent_gp rg.1 ⟨by omega, rg.2.2⟩]
      have := (sub f hf).1
      rw [decide_eq_true_iff, L.part.mem_iff (by omega) rg.2.2]
      exact ⟨fun z => z.1, fun z => ⟨z, this⟩⟩
    · rw [List.countP_append, H.once x hx]
      have : (ringRows gs pk ring f0.2.1).countP (fun f => ent f.1 f.2.1 x.1) = 0 := by
        refine List.countP_eq_zero.mpr fun f hf h => ?_
        obtain ⟨p, hp, _, rfl⟩ := mem_ringRows.mp hf
        rw [noR p hp x hx] at h
        cases h
      omega
  · rw [List.pairwise_append]
    refine ⟨L.lam0, H.lam, fun x hx y hy => ?_⟩
    obtain ⟨p, h1, h2, h3, rfl⟩ := mem_price0 hx
    rcases uni_down L.part Wh (H.grp y hy).2.2 _ (gp_mem h2) with z | z
    · right
      refine ⟨fun e => ?_, z⟩
      have e' : gp gs p = y.1 := e
      have hpk := L.pk p h1 h2
      have cr : pl gs (pk p).1 ≠ pl gs (pk p).2.1 := by rw [L.ppl h1 h2]; exact L.psrc h1 h2
      have f1 := H.fea _ (mem_les.mpr ⟨pk p, hpk.mem, cr, rfl⟩)
      have f2 : paid P (pk p).1 (pk p).2.1 ≤ (pk p).2.2 - (pk (pl gs (pk p).2.1)).2.2 := f1
      rw [L.ppl h1 h2] at f2
      have f3 : y.2 ≤ paid P (pk p).1 (pk p).2.1 := by
        obtain ⟨s, t, rfl⟩ := List.append_of_mem hy
        have g1 : ∀ l : List Price, (∀ x ∈ l, 0 < x.2) → 0 ≤ paid l (pk p).1 (pk p).2.1 := fun l hl => tot_nonneg fun x hx => by
          have := hl x hx
          split <;> omega
        rw [paid_append]
        have g2 := g1 s fun x hx => (H.grp x (List.mem_append_left _ hx)).2.1
        have g3 := g1 t fun x hx => (H.grp x (List.mem_append_right _ (List.mem_cons_of_mem _ hx))).2.1
        have g4 : paid (y :: t) (pk p).1 (pk p).2.1 = y.2 + paid t (pk p).1 (pk p).2.1 := by
          show (if ent _ _ y.1 = true then y.2 else 0) + paid t _ _ = _
          rw [if_pos (e' ▸ hpk.en)]
        omega
      have := (H.grp y hy).2.1
      omega
    · exact .inl z
end

/-! ### families -/
abbrev Fml := List (Option Int)
def par (fam : Fml) (t : Int) : Int := if t = 0 then 0 else ((fam[t.toNat]?).getD none).getD t
def up (fam : Fml) : Nat → Int → Int
  | 0, t => t
  | m + 1, t => up fam m (par fam t)
def hasR (rows : List Rw3) (a b : Int) : Prop := ∃ c, (a, b, c) ∈ rows
def costR (rows : List Rw3) (a b : Int) : Int := ((rows.find? fun r => decide (r.1 = a) && decide (r.2.1 = b)).map (·.2.2)).getD 0
structure IsFam (n : Int) (rows : List Rw3) (fam : Fml) : Prop where
  len : (fam.length : Int) = n
  root : fam[0]? = some none
  hear : ∀ t : Int, 1 ≤ t → t < n → ∃ a, fam[t.toNat]? = some (some a) ∧ hasR rows a t
  lead : ∀ t : Int, 0 ≤ t → t < n → up fam n.toNat t = 0
def tellers (n : Int) : List Int := (List.range (n.toNat - 1)).map fun (i : Nat) => (i : Int) + 1
def worth (n : Int) (rows : List Rw3) (fam : Fml) : Int := tot (fun t => costR rows (par fam t) t) (tellers n)
theorem mem_tellers {n t : Int} : t ∈ tellers n ↔ 1 ≤ t ∧ t < n := by
  unfold tellers
  rw [List.mem_map]
  constructor
  · rintro ⟨i, hi, rfl⟩
    have := List.mem_range.mp hi
    omega
  · intro h
    exact ⟨(t - 1).toNat, List.mem_range.mpr (by omega), by omega⟩
theorem tellers_nd (n : Int) : (tellers n).Nodup := by
  unfold tellers
  unfold List.Nodup
  rw [List.pairwise_map]
  refine List.Pairwise.imp ?_ List.pairwise_lt_range
  intro a b h; omega
theorem tellers_len (n : Int) : (tellers n).length = n.toNat - 1 := by simp [tellers]
theorem costR_of {rows : List Rw3} (uq : ∀ r ∈ rows, ∀ q ∈ rows, r.1 = q.1 → r.2.1 = q.2.1 → r.2.2 = q.2.2) {a b c : Int} (h : (a, b, c) ∈ rows) : costR rows a b = c := by
  unfold costR
  cases e : rows.find? fun r => decide (r.1 = a) && decide (r.2.1 = b) with
  | none =>
    have := List.find?_eq_none.mp e _ h
    simp at this
  | some r =>
    have h1 := List.find?_some e
    have h2 := List.mem_of_find?_eq_some e
    simp at h1
    exact uq r h2 _ h h1.1 h1.2
section
variable {n : Int} {rows : List Rw3} {fam : Fml} {P : List Price}
theorem IsFam.par_of (I : IsFam n rows fam) {t : Int} (h1 : 1 ≤ t) (h2 : t < n) : hasR rows (par fam t) t := by
  obtain ⟨a, e, h⟩ := I.hear t h1 h2
  have : par fam t = a := by unfold par; rw [if_neg (by omega), e]; rfl
  rw [this]; exact h
theorem par_zero (fam : Fml) : par fam 0 = 0 := if_pos rfl
theorem up_zero (fam : Fml) : ∀ m, up fam m 0 = 0
  | 0 => rfl
  | m + 1 => by show up fam m (par fam 0) = 0; rw [par_zero]; exact up_zero fam m
theorem up_add (fam : Fml) : ∀ (m k : Nat) (t : Int), up fam (m + k) t = up fam k (up fam m t)
  | 0, k, t => by rw [Nat.zero_add]; rfl
  | m + 1, k, t => by rw [Nat.succ_add]; exact up_add fam m k (par fam t)
theorem up_stay {g : List Int} (h : ∀ t ∈ g, par fam t ∈ g) : ∀ (m : Nat) (t : Int), t ∈ g → up fam m t ∈ g
  | 0, _, ht => ht
  | m + 1, t, ht => up_stay h m _ (h t ht)
/-- a family enters each group -/
theorem IsFam.enters (I : IsFam n rows fam) {g : List Int} (G : Grp n g) : ∃ t ∈ tellers n, ent (par fam t) t g = true := by
  obtain ⟨s, hs⟩ := List.exists_mem_of_ne_nil _ G.ne
  have key : ¬ ∀ t ∈ g, par fam t ∈ g := fun h => by
    have z := up_stay h n.toNat s hs
    rw [I.lead s (G.rng s hs).1 (G.rng s hs).2] at z
    exact G.no0 z
  have : ∃ t ∈ g, par fam t ∉ g := Classical.byContradiction fun w => key fun t ht => Classical.byContradiction fun z => w ⟨t, ht, z⟩
  obtain ⟨t, ht, hp⟩ := this
  have r := G.rng t ht
  refine ⟨t, mem_tellers.mpr ⟨?_, r.2⟩, ent_iff.mpr ⟨ht, hp⟩⟩
  have : t ≠ 0 := fun e => G.no0 (e ▸ ht)
  omega
def total (P : List Price) : Int := tot (·.2) P
structure Prices (n : Int) (rows : List Rw3) (P : List Price) : Prop where
  grp : ∀ x ∈ P, Grp n x.1 ∧ 0 < x.2
  fea : ∀ r ∈ rows, paid P r.1 r.2.1 ≤ r.2.2
  lam : P.Pairwise Nest
theorem paid_sum (fam : Fml) (P : List Price) (l : List Int) : tot (fun t => paid P (par fam t) t) l = tot (fun x : Price => x.2 * (l.countP (fun t => ent (par fam t) t x.1) : Nat)) P := by
  unfold paid
  rw [tot_swap (fun (t : Int) (x : Price) => if ent (par fam t) t x.1 = true then x.2 else 0) l P]
  exact tot_congr fun x _ => tot_count (fun t => ent (par fam t) t x.1) x.2 l
/-- no family is worth less than all prices -/
theorem IsFam.dual (I : IsFam n rows fam) (R : RowsIn n rows) (Pr : Prices n rows P) : total P ≤ worth n rows fam := by
  have h1 : tot (fun t => paid P (par fam t) t) (tellers n) ≤ worth n rows fam := tot_le fun t ht => by
    obtain ⟨a, b⟩ := mem_tellers.mp ht
    obtain ⟨c, hc⟩ := I.par_of a b
    rw [costR_of R.uq hc]
    exact Pr.fea _ hc
  refine Int.le_trans ?_ h1
  rw [paid_sum]
  refine tot_le fun x hx => ?_
  obtain ⟨G, p⟩ := Pr.grp x hx
  have : 0 < (tellers n).countP (fun t => ent (par fam t) t x.1) := List.countP_pos_iff.mpr (I.enters G)
  have q : x.2 * 1 ≤ x.2 * ((tellers n).countP (fun t => ent (par fam t) t x.1) : Nat) := Int.mul_le_mul_of_nonneg_left (by omega) (by omega)
  omega
theorem IsFam.not_lone (I : IsFam n rows fam) {g : List Int} (G : Grp n g) (h : ∀ r ∈ rows, ent r.1 r.2.1 g = false) : False := by
  obtain ⟨t, ht, e⟩ := I.enters G
  obtain ⟨a, b⟩ := mem_tellers.mp ht
  obtain ⟨c, hc⟩ := I.par_of a b
  have h' := h _ hc
  have h2 : ent (par fam t) t g = false := h'
  rw [h2] at e
  cases e
/-- who leads to the first one does so soon -/
theorem up_soon (hp : ∀ t : Int, 1 ≤ t → t < n → 0 ≤ par fam t ∧ par fam t < n) {t : Int} (h0 : 0 ≤ t) (h1 : t < n) : ∀ m, up fam m t = 0 → up fam n.toNat t = 0 := by
  have rng : ∀ m, 0 ≤ up fam m t ∧ up fam m t < n := by
    intro m
    induction m with
    | zero => exact ⟨h0, h1⟩
    | succ m ih =>
      have e : up fam (m + 1) t = par fam (up fam m t) := up_add fam m 1 t
      rw [e]
      by_cases z : up fam m t = 0
      · rw [z, par_zero]; omega
      · exact hp _ (by omega) ih.2
  have late : ∀ {m k : Nat}, m ≤ k → up fam m t = 0 → up fam k t = 0 := fun {m k} hmk e => by
    have : k = m + (k - m) := by omega
    rw [this, up_add, e, up_zero]
  have key : ∀ N m, m ≤ N → up fam m t = 0 → up fam n.toNat t = 0 := by
    intro N
    induction N with
    | zero => intro m hm e; exact late (by omega) e
    | succ N ih =>
      intro m hm e
      by_cases c : m ≤ n.toNat
      · exact late c e
      · by_cases z : ∃ i, i < m ∧ up fam i t = 0
        · obtain ⟨i, hi, ei⟩ := z
          exact ih i (by omega) ei
        · by_cases d : ∃ i j, i < j ∧ j < m ∧ up fam i t = up fam j t
          · obtain ⟨i, j, hij, hj, e2⟩ := d
            refine ih (i + (m - j)) (by omega) ?_
            rw [up_add, e2, ← up_add]
            have : j + (m - j) = m := by omega
            rw [this]; exact e
          · exfalso
            have nd : ((List.range m).map fun i => up fam i t).Nodup := by
              unfold List.Nodup
              rw [List.pairwise_map, List.pairwise_iff_getElem]
              intro i j hi hj hij
              simp only [List.getElem_range]
              intro e2
              exact d ⟨i, j, hij, by simpa using hj, e2⟩
            have sb : ((List.range m).map fun i => up fam i t) ⊆ tellers n := by
              intro x hx
              obtain ⟨i, hi, rfl⟩ := List.mem_map.mp hx
              have r := rng i
              refine mem_tellers.mpr ⟨?_, r.2⟩
              have : up fam i t ≠ 0 := fun w => z ⟨i, List.mem_range.mp hi, w⟩
              omega
            have l := nd.length_le_of_subset sb
            rw [tellers_len] at l
            simp at l
            omega
  exact fun m => key m m (Nat.le_refl _)
end
/-! ### the whole: groups of one -/
def singles (n : Int) : List (List Int) := (List.range n.toNat).map fun (i : Nat) => [(i : Int)]
theorem singles_len (n : Int) : (singles n).length = n.toNat := by simp [singles]
theorem gp_singles {n : Int} {p : Nat} (h : p < n.toNat) : gp (singles n) p = [(p : Int)] := by
  refine gp_get ?_
  unfold singles
  rw [List.getElem?_map, List.getElem?_range h]; rfl
theorem part_singles {n : Int} (h : 1 ≤ n) : Part n (singles n) where
  root := by
    have := gp_lt (gs := singles n) (p := 0) (by rw [singles_len]; omega)
    rw [this, gp_singles (by omega)]; rfl
  disj := by
    unfold singles
    rw [List.pairwise_map]
    refine List.Pairwise.imp ?_ List.pairwise_lt_range
    intro a b hab t ha hb
    rw [List.mem_singleton] at ha hb
    omega
  cov := fun t h0 h1 => ⟨[t], List.mem_map.mpr ⟨t.toNat, List.mem_range.mpr (by omega), by simp; omega⟩, List.mem_singleton.mpr rfl⟩
  rng := fun g hg t ht => by
    obtain ⟨i, hi, rfl⟩ := List.mem_map.mp hg
    have := List.mem_range.mp hi
    rw [List.mem_singleton] at ht
    omega
  srt := fun g hg => by
    obtain ⟨i, hi, rfl⟩ := List.mem_map.mp hg
    exact List.pairwise_singleton _ _
  ne := fun g hg => by
    obtain ⟨i, hi, rfl⟩ := List.mem_map.mp hg
    exact List.cons_ne_nil _ _
def famOf (n : Int) (F : List Rw3) : Fml := F.foldl (fun fam f => fam.set f.2.1.toNat (some f.1)) (List.replicate n.toNat none)
theorem fold_len : ∀ (F : List Rw3) (fam : Fml), (F.foldl (fun fam f => fam.set f.2.1.toNat (some f.1)) fam).length = fam.length
  | [], _ => rfl
  | f :: F, fam => by rw [List.foldl_cons, fold_len F, List.length_set]
theorem fold_out {i : Nat} : ∀ (F : List Rw3) (fam : Fml), (∀ f ∈ F, f.2.1.toNat ≠ i) → (F.foldl (fun fam f => fam.set f.2.1.toNat (some f.1)) fam)[i]? = fam[i]?
  | [], _, _ => rfl
  | f :: F, fam, h => by
    rw [List.foldl_cons, fold_out F _ fun g hg => h g (List.mem_cons_of_mem _ hg), List.getElem?_set_ne (h f (List.mem_cons_self ..))]
theorem fold_in {i : Nat} {a : Int} : ∀ (F : List Rw3) (fam : Fml), i < fam.length → (∃ f ∈ F, f.2.1.toNat = i) → (∀ f ∈ F, f.2.1.toNat = i → f.1 = a) →
    (F.foldl (fun fam f => fam.set f.2.1.toNat (some f.1)) fam)[i]? = some (some a)
  | [], _, _, ⟨_, h, _⟩, _ => nomatch h
  | f :: F, fam, hl, hx, ha => by
    rw [List.foldl_cons]
    by_cases e : ∃ g ∈ F, g.2.1.toNat = i
    · exact fold_in F _ (by rw [List.length_set]; exact hl) e fun g hg => ha g (List.mem_cons_of_mem _ hg)
    · rw [fold_out F _ fun g hg z => e ⟨g, hg, z⟩]
      obtain ⟨g, hg, eg⟩ := hx
      cases hg with
      | head => rw [eg, List.getElem?_set_self hl, ha f (List.mem_cons_self ..) eg]
      | tail _ hg => exact absurd ⟨g, hg, eg⟩ e
structure Judged (n : Int) (rows : List Rw3) (fam : Fml) (P : List Price) : Prop where
  isf : IsFam n rows fam
  pr : Prices n rows P
  eq : total P = worth n rows fam
theorem judged_of {n : Int} {rows F : List Rw3} {P : List Price} (h1 : 1 ≤ n) (R : RowsIn n rows) (H : Fam n (singles n) rows F P) : Judged n rows (famOf n F) P := by
  have rngF : ∀ f ∈ F, (0 ≤ f.1 ∧ f.1 < n) ∧ (1 ≤ f.2.1 ∧ f.2.1 < n) := fun f hf => by
    obtain ⟨_, c, h⟩ := H.sub f hf
    exact ⟨R.a0 (f.1, f.2.1, c) h, R.b0 (f.1, f.2.1, c) h⟩
  have cnt : ∀ t : Int, 1 ≤ t → t < n → F.countP (fun f => decide (f.2.1 = t)) = 1 := fun t h1 h2 => by
    have := H.cnt t.toNat (by rw [singles_len]; omega)
    rw [gp_singles (by omega), if_neg (by omega)] at this
    rw [← this]
    refine List.countP_congr fun f _ => ?_
    rw [decide_eq_true_iff, decide_eq_true_iff, List.mem_singleton]
    omega
  have getF : ∀ f ∈ F, (famOf n F)[f.2.1.toNat]? = some (some f.1) := fun f hf => by
    have r := rngF f hf
    refine fold_in F _ (by simp; omega) ⟨f, hf, rfl⟩ fun g hg e => ?_
    have rg := rngF g hg
    rw [count_uniq (f := fun x => x) (cnt f.2.1 r.2.1 r.2.2) g hg f hf (by simp; omega) (by simp)]
  have parF : ∀ f ∈ F, par (famOf n F) f.2.1 = f.1 := fun f hf => by
    have r := rngF f hf
    unfold par
    rw [if_neg (by omega), getF f hf]; rfl
  have hasF : ∀ t : Int, 1 ≤ t → t < n → ∃ f ∈ F, f.2.1 = t := fun t h1 h2 => by
    obtain ⟨f, hf, e⟩ := count_pos_of (cnt t h1 h2)
    exact ⟨f, hf, by simpa using e⟩
  have upF : ∀ p, Led F (singles n) p → p < n.toNat → ∃ m, up (famOf n F) m (p : Int) = 0 := fun p l => by
    induction l with
    | root => exact fun _ => ⟨0, rfl⟩
    | @step p q f hf hb ha _ ih =>
      intro hp
      have hq := gp_out ha
      rw [singles_len] at hq
      rw [gp_singles hp, List.mem_singleton] at hb
      rw [gp_singles hq, List.mem_singleton] at ha
      obtain ⟨m, e⟩ := ih hq
      refine ⟨m + 1, ?_⟩
      show up (famOf n F) m (par (famOf n F) (p : Int)) = 0
      rw [← hb, parF f hf, ha]
      exact e
  have I : IsFam n rows (famOf n F) := {
    len := by
      show ((famOf n F).length : Int) = n
      unfold famOf
      rw [fold_len, List.length_replicate]; omega
    root := by
      unfold famOf
      rw [fold_out F _ fun f hf => by have := (rngF f hf).2; omega]
      rw [List.getElem?_replicate, if_pos (by omega)]
    hear := fun t h1 h2 => by
      obtain ⟨f, hf, e⟩ := hasF t h1 h2
      refine ⟨f.1, by rw [← e]; exact getF f hf, ?_⟩
      obtain ⟨_, c, h⟩ := H.sub f hf
      exact ⟨c, e ▸ h⟩
    lead := fun t h0 h2 => by
      obtain ⟨m, e⟩ := upF t.toNat (H.led _ (by rw [singles_len]; omega)) (by omega)
      have et : ((t.toNat : Nat) : Int) = t := by omega
      rw [et] at e
      refine up_soon (n := n) (fun s a b => ?_) h0 h2 m e
      obtain ⟨f, hf, e⟩ := hasF s a b
      rw [← e, parF f hf]
      exact (rngF f hf).1 }
  refine ⟨I, ⟨fun x hx => ⟨(H.grp x hx).1, (H.grp x hx).2.1⟩, H.fea, H.lam⟩, ?_⟩
  have pm : (F.map (·.2.1)).Perm (tellers n) := by
    rw [List.perm_iff_count]
    intro t
    by_cases ht : 1 ≤ t ∧ t < n
    · have e1 : (tellers n).count t = 1 := count_one (a := t) (tellers_nd n) (mem_tellers.mpr ht) (by simp) (fun x _ hx => by simpa using hx)
      have e2 : (F.map (·.2.1)).count t = F.countP (fun f => decide (f.2.1 = t)) := by
        rw [List.count, List.countP_map]
        exact List.countP_congr fun f _ => by simp
      rw [e1, e2, cnt t ht.1 ht.2]
    · have e1 : (tellers n).count t = 0 := List.count_eq_zero.mpr fun h => ht (mem_tellers.mp h)
      have e2 : (F.map (·.2.1)).count t = 0 := List.count_eq_zero.mpr fun h => by
        obtain ⟨f, hf, rfl⟩ := List.mem_map.mp h
        exact ht (rngF f hf).2
      rw [e1, e2]
  have w : worth n rows (famOf n F) = tot (fun t => paid P (par (famOf n F) t) t) (tellers n) := tot_congr fun t ht => by
    obtain ⟨a, b⟩ := mem_tellers.mp ht
    obtain ⟨f, hf, e⟩ := hasF t a b
    obtain ⟨_, c, h⟩ := H.sub f hf
    rw [← e, parF f hf, costR_of R.uq h]
    exact (H.tgt f hf c h).symm
  rw [w, paid_sum]
  refine (tot_congr fun x hx => ?_).symm
  have e : (tellers n).countP (fun t => ent (par (famOf n F) t) t x.1) = 1 := by
    rw [← pm.countP_eq, List.countP_map, ← H.once x hx]
    refine List.countP_congr fun f hf => ?_
    show ent (par (famOf n F) f.2.1) f.2.1 x.1 = true ↔ _
    rw [parF f hf]
  rw [e]; simp


/-! ### the least worth -/
def LeastIs (n : Int) (rows : List Rw3) : Option Int → Prop
  | none => ∀ fam, ¬ IsFam n rows fam
  | some m => (∃ fam, IsFam n rows fam ∧ worth n rows fam = m) ∧ ∀ fam, IsFam n rows fam → m ≤ worth n rows fam
theorem LeastIs.uniq {n : Int} {rows : List Rw3} : ∀ {o o' : Option Int}, LeastIs n rows o → LeastIs n rows o' → o = o'
  | none, none, _, _ => rfl
  | none, some m, h, ⟨⟨f, hf, _⟩, _⟩ => (h f hf).elim
  | some m, none, ⟨⟨f, hf, _⟩, _⟩, h => (h f hf).elim
  | some m, some k, ⟨⟨f, hf, e⟩, h⟩, ⟨⟨g, hg, e'⟩, h'⟩ => by
    have h1 := h g hg
    have h2 := h' f hf
    have : m = k := by omega
    rw [this]
theorem RowsIn.filter {n : Int} {rows : List Rw3} (R : RowsIn n rows) (p : Rw3 → Bool) : RowsIn n (rows.filter p) :=
  ⟨fun r h => R.a0 r (List.mem_filter.mp h).1, fun r h => R.b0 r (List.mem_filter.mp h).1, fun r h => R.c0 r (List.mem_filter.mp h).1,
   fun r h q h' => R.uq r (List.mem_filter.mp h).1 q (List.mem_filter.mp h').1⟩
section
variable {n : Int} {rows : List Rw3} {fam : Fml}
theorem IsFam.worth_nonneg (I : IsFam n rows fam) (R : RowsIn n rows) : 0 ≤ worth n rows fam := tot_nonneg fun t ht => by
  obtain ⟨a, b⟩ := mem_tellers.mp ht
  obtain ⟨c, hc⟩ := I.par_of a b
  rw [costR_of R.uq hc]
  exact R.c0 _ hc
theorem least_ex (R : RowsIn n rows) : ∃ o, LeastIs n rows o := by
  by_cases h : ∃ fam, IsFam n rows fam
  · have key : ∀ N : Nat, (∃ fam, IsFam n rows fam ∧ worth n rows fam ≤ N) → ∃ m, LeastIs n rows (some m) := by
      intro N
      induction N with
      | zero =>
        rintro ⟨fam, I, w⟩
        have := I.worth_nonneg R
        exact ⟨worth n rows fam, ⟨fam, I, rfl⟩, fun g hg => by have := hg.worth_nonneg R; omega⟩
      | succ N ih =>
        rintro ⟨fam, I, w⟩
        by_cases z : ∃ g, IsFam n rows g ∧ worth n rows g ≤ N
        · exact ih z
        · refine ⟨worth n rows fam, ⟨fam, I, rfl⟩, fun g hg => ?_⟩
          have : ¬ worth n rows g ≤ N := fun q => z ⟨g, hg, q⟩
          omega
    obtain ⟨fam, I⟩ := h
    have := I.worth_nonneg R
    obtain ⟨m, hm⟩ := key (worth n rows fam).toNat ⟨fam, I, by omega⟩
    exact ⟨some m, hm⟩
  · exact ⟨none, fun fam I => h ⟨fam, I⟩⟩
open Classical in
noncomputable def leastV (n : Int) (rows : List Rw3) : Option Int := if h : ∃ o, LeastIs n rows o then Classical.choose h else none
theorem leastV_eq {o : Option Int} (h : LeastIs n rows o) : leastV n rows = o := by
  have hx : ∃ o, LeastIs n rows o := ⟨o, h⟩
  unfold leastV
  rw [dif_pos hx]
  exact (Classical.choose_spec hx).uniq h
theorem leastV_is (R : RowsIn n rows) : LeastIs n rows (leastV n rows) := by
  obtain ⟨o, h⟩ := least_ex R
  rw [leastV_eq h]; exact h
theorem leastV_none (R : RowsIn n rows) : leastV n rows = none ↔ ∀ fam, ¬ IsFam n rows fam := by
  constructor
  · intro e
    have := leastV_is R
    rw [e] at this; exact this
  · exact fun h => leastV_eq (o := none) h
theorem leastV_some (R : RowsIn n rows) {m : Int} : leastV n rows = some m ↔ (∃ fam, IsFam n rows fam ∧ worth n rows fam = m) ∧ ∀ fam, IsFam n rows fam → m ≤ worth n rows fam := by
  constructor
  · intro e
    have := leastV_is R
    rw [e] at this; exact this
  · exact fun h => leastV_eq (o := some m) h
theorem Judged.least {P : List Price} (J : Judged n rows fam P) (R : RowsIn n rows) : leastV n rows = some (worth n rows fam) :=
  leastV_eq ⟨⟨fam, J.isf, rfl⟩, fun g hg => by rw [← J.eq]; exact hg.dual R J.pr⟩
theorem lone_least {g : List Int} (G : Grp n g) (h : ∀ r ∈ rows, ent r.1 r.2.1 g = false) : leastV n rows = none :=
  leastV_eq (o := none) fun _ I => I.not_lone G h
/-! ### a teller that can have heard from one alone; a hearing away -/
def onlyR (rows : List Rw3) (a b : Int) : List Rw3 := rows.filter fun r => decide (r.2.1 ≠ b) || decide (r.1 = a)
def lessR (rows : List Rw3) (a b : Int) : List Rw3 := rows.filter fun r => decide (¬ (r.1 = a ∧ r.2.1 = b))
theorem has_only {a b x y : Int} : hasR (onlyR rows a b) x y ↔ hasR rows x y ∧ (y = b → x = a) := by
  unfold hasR onlyR
  constructor
  · rintro ⟨c, h⟩
    obtain ⟨h1, h2⟩ := List.mem_filter.mp h
    refine ⟨⟨c, h1⟩, fun e => ?_⟩
    simpa [e] using h2
  · rintro ⟨⟨c, h⟩, e⟩
    refine ⟨c, List.mem_filter.mpr ⟨h, ?_⟩⟩
    by_cases q : y = b
    · simp [e q]
    · simp [q]
theorem has_less {a b x y : Int} : hasR (lessR rows a b) x y ↔ hasR rows x y ∧ ¬ (x = a ∧ y = b) := by
  unfold hasR lessR
  constructor
  · rintro ⟨c, h⟩
    obtain ⟨h1, h2⟩ := List.mem_filter.mp h
    exact ⟨⟨c, h1⟩, of_decide_eq_true h2⟩
  · rintro ⟨⟨c, h⟩, e⟩
    exact ⟨c, List.mem_filter.mpr ⟨h, decide_eq_true e⟩⟩
theorem IsFam.to {rows' : List Rw3} (I : IsFam n rows fam) (h : ∀ t : Int, 1 ≤ t → t < n → hasR rows (par fam t) t → hasR rows' (par fam t) t) : IsFam n rows' fam where
  len := I.len
  root := I.root
  hear := fun t h1 h2 => by
    obtain ⟨a, e, q⟩ := I.hear t h1 h2
    have : par fam t = a := by unfold par; rw [if_neg (by omega), e]; rfl
    refine ⟨a, e, ?_⟩
    have z := h t h1 h2 (by rw [this]; exact q)
    rw [this] at z
    exact z
  lead := I.lead
theorem worth_to {rows' : List Rw3} (R : RowsIn n rows) (R' : RowsIn n rows') (I : IsFam n rows fam) (I' : IsFam n rows' fam) (h : ∀ r ∈ rows', r ∈ rows) : worth n rows' fam = worth n rows fam :=
  tot_congr fun t ht => by
    obtain ⟨a, b⟩ := mem_tellers.mp ht
    obtain ⟨c, hc⟩ := I'.par_of a b
    rw [costR_of R'.uq hc, costR_of R.uq (h _ hc)]
theorem IsFam.par_get (I : IsFam n rows fam) {t : Int} (h1 : 1 ≤ t) (h2 : t < n) : fam[t.toNat]? = some (some (par fam t)) := by
  obtain ⟨a, e, q⟩ := I.hear t h1 h2
  have : par fam t = a := by unfold par; rw [if_neg (by omega), e]; rfl
  rw [this]; exact e
/-- two families that tell the same of each -/
theorem IsFam.ext {rows' : List Rw3} {fam' : Fml} (I : IsFam n rows fam) (I' : IsFam n rows' fam') (h : ∀ t : Int, 1 ≤ t → t < n → par fam t = par fam' t) : fam = fam' := by
  have l := I.len
  have l' := I'.len
  refine List.ext_getElem? fun i => ?_
  by_cases i0 : i = 0
  · rw [i0, I.root, I'.root]
  · by_cases hi : (i : Int) < n
    · have a := I.par_get (t := (i : Int)) (by omega) hi
      have b := I'.par_get (t := (i : Int)) (by omega) hi
      simp only [Int.toNat_natCast] at a b
      rw [a, b, h _ (by omega) hi]
    · rw [List.getElem?_eq_none (by omega), List.getElem?_eq_none (by omega)]
theorem isFam_only {a b : Int} (hb : 1 ≤ b ∧ b < n) : IsFam n (onlyR rows a b) fam ↔ IsFam n rows fam ∧ par fam b = a := by
  constructor
  · intro I
    exact ⟨I.to fun t _ _ h => (has_only.mp h).1, (has_only.mp (I.par_of hb.1 hb.2)).2 rfl⟩
  · rintro ⟨I, e⟩
    exact I.to fun t _ _ h => has_only.mpr ⟨h, fun q => by rw [q]; exact e⟩
theorem isFam_less {a b : Int} (hb : 1 ≤ b ∧ b < n) : IsFam n (lessR rows a b) fam ↔ IsFam n rows fam ∧ par fam b ≠ a := by
  constructor
  · intro I
    exact ⟨I.to fun t _ _ h => (has_less.mp h).1, fun e => (has_less.mp (I.par_of hb.1 hb.2)).2 ⟨e, rfl⟩⟩
  · rintro ⟨I, e⟩
    exact I.to fun t _ _ h => has_less.mpr ⟨h, fun q => e (by rw [← q.2]; exact q.1)⟩
theorem worth_only {a b : Int} (R : RowsIn n rows) (I : IsFam n rows fam) (I' : IsFam n (onlyR rows a b) fam) : worth n (onlyR rows a b) fam = worth n rows fam :=
  worth_to R (R.filter _) I I' fun _ h => (List.mem_filter.mp h).1
theorem worth_less {a b : Int} (R : RowsIn n rows) (I : IsFam n rows fam) (I' : IsFam n (lessR rows a b) fam) : worth n (lessR rows a b) fam = worth n rows fam :=
  worth_to R (R.filter _) I I' fun _ h => (List.mem_filter.mp h).1
/-- the least worth with a hearing -/
theorem only_some {a b m : Int} (R : RowsIn n rows) (hb : 1 ≤ b ∧ b < n) : leastV n (onlyR rows a b) = some m ↔
    (∃ fam, IsFam n rows fam ∧ par fam b = a ∧ worth n rows fam = m) ∧ ∀ fam, IsFam n rows fam → par fam b = a → m ≤ worth n rows fam := by
  have R' : RowsIn n (onlyR rows a b) := R.filter _
  rw [leastV_some R']
  constructor
  · rintro ⟨⟨fam, I, w⟩, h⟩
    have q := (isFam_only hb).mp I
    refine ⟨⟨fam, q.1, q.2, by rw [← worth_only R q.1 I]; exact w⟩, fun g hg e => ?_⟩
    have I2 : IsFam n (onlyR rows a b) g := (isFam_only hb).mpr ⟨hg, e⟩
    have := h g I2
    rwa [worth_only R hg I2] at this
  · rintro ⟨⟨fam, I, e, w⟩, h⟩
    have I2 : IsFam n (onlyR rows a b) fam := (isFam_only hb).mpr ⟨I, e⟩
    refine ⟨⟨fam, I2, by rw [worth_only R I I2]; exact w⟩, fun g hg => ?_⟩
    have q := (isFam_only hb).mp hg
    rw [worth_only R q.1 hg]
    exact h g q.1 q.2
theorem only_none {a b : Int} (R : RowsIn n rows) (hb : 1 ≤ b ∧ b < n) : leastV n (onlyR rows a b) = none ↔ ∀ fam, IsFam n rows fam → par fam b ≠ a := by
  have R' : RowsIn n (onlyR rows a b) := R.filter _
  rw [leastV_none R']
  constructor
  · intro h fam I e
    exact h fam ((isFam_only hb).mpr ⟨I, e⟩)
  · intro h fam I
    have q := (isFam_only hb).mp I
    exact h fam q.1 q.2
theorem less_some {a b m : Int} (R : RowsIn n rows) (hb : 1 ≤ b ∧ b < n) : leastV n (lessR rows a b) = some m ↔
    (∃ fam, IsFam n rows fam ∧ par fam b ≠ a ∧ worth n rows fam = m) ∧ ∀ fam, IsFam n rows fam → par fam b ≠ a → m ≤ worth n rows fam := by
  have R' : RowsIn n (lessR rows a b) := R.filter _
  rw [leastV_some R']
  constructor
  · rintro ⟨⟨fam, I, w⟩, h⟩
    have q := (isFam_less hb).mp I
    refine ⟨⟨fam, q.1, q.2, by rw [← worth_less R q.1 I]; exact w⟩, fun g hg e => ?_⟩
    have I2 : IsFam n (lessR rows a b) g := (isFam_less hb).mpr ⟨hg, e⟩
    have := h g I2
    rwa [worth_less R hg I2] at this
  · rintro ⟨⟨fam, I, e, w⟩, h⟩
    have I2 : IsFam n (lessR rows a b) fam := (isFam_less hb).mpr ⟨I, e⟩
    refine ⟨⟨fam, I2, by rw [worth_less R I I2]; exact w⟩, fun g hg => ?_⟩
    have q := (isFam_less hb).mp hg
    rw [worth_less R q.1 hg]
    exact h g q.1 q.2
/-! ### the first one of the least -/
/-- of two unlike ones this one is ahead, or they are the same -/
def Ahead (n : Int) (fam g : Fml) : Prop := (∀ t : Int, 1 ≤ t → t < n → par fam t = par g t) ∨ ∃ j : Int, 1 ≤ j ∧ j < n ∧ (∀ t : Int, 1 ≤ t → t < j → par fam t = par g t) ∧ par fam j < par g j
structure FirstIs (n : Int) (rows : List Rw3) (fam : Fml) : Prop where
  isf : IsFam n rows fam
  low : leastV n rows = some (worth n rows fam)
  fst : ∀ g, IsFam n rows g → worth n rows g = worth n rows fam → Ahead n fam g
theorem Ahead.anti {g : Fml} (a : Ahead n fam g) (b : Ahead n g fam) : ∀ t : Int, 1 ≤ t → t < n → par fam t = par g t := by
  rcases a with a | ⟨j, j1, j2, je, jl⟩
  · exact a
  · rcases b with b | ⟨k, k1, k2, ke, kl⟩
    · have := b j j1 j2; omega
    · exfalso
      rcases Int.lt_trichotomy j k with h | h | h
      · have := ke j j1 h; omega
      · subst h; omega
      · have := je k k1 h; omega
theorem FirstIs.uniq {g : Fml} (a : FirstIs n rows fam) (b : FirstIs n rows g) : fam = g := by
  have e : worth n rows fam = worth n rows g := by
    have := a.low.symm.trans b.low
    exact Option.some.inj this
  exact a.isf.ext b.isf ((a.fst g b.isf e.symm).anti (b.fst fam a.isf e))
/-- behind the first i tellers: cur are the hearings left, fnd what was found -/
structure FirstInv (n : Int) (rows : List Rw3) (w : Int) (i : Nat) (cur : List Rw3) (fnd : Fml) : Prop where
  rin : RowsIn n cur
  sub : ∀ r ∈ cur, r ∈ rows
  len : fnd.length = i + 1
  root : fnd[0]? = some none
  isf : ∀ fam, IsFam n cur fam ↔ IsFam n rows fam ∧ ∀ t : Int, 1 ≤ t → t < 1 + (i : Int) → fnd[t.toNat]? = some (some (par fam t))
  low : leastV n cur = some w
  low0 : leastV n rows = some w
  fst : ∀ g, IsFam n rows g → worth n rows g = w → (∀ t : Int, 1 ≤ t → t < 1 + (i : Int) → fnd[t.toNat]? = some (some (par g t))) ∨
    ∃ j a : Int, 1 ≤ j ∧ j < 1 + (i : Int) ∧ (∀ t : Int, 1 ≤ t → t < j → fnd[t.toNat]? = some (some (par g t))) ∧ fnd[j.toNat]? = some (some a) ∧ a < par g j
theorem FirstInv.start (R : RowsIn n rows) {w : Int} (h : leastV n rows = some w) : FirstInv n rows w 0 rows [none] where
  rin := R
  sub := fun _ h => h
  len := rfl
  root := rfl
  isf := fun fam => ⟨fun I => ⟨I, fun t a b => by omega⟩, fun I => I.1⟩
  low := h
  low0 := h
  fst := fun g _ _ => .inl fun t a b => by omega
/-- some hearing into the next teller is good -/
theorem FirstInv.good {w : Int} {i : Nat} {cur : List Rw3} {fnd : Fml} (V : FirstInv n rows w i cur fnd) {t : Int} (h1 : 1 ≤ t) (h2 : t < n) : ∃ a, hasR cur a t ∧ leastV n (onlyR cur a t) = some w := by
  obtain ⟨⟨fam, I, e⟩, h⟩ := (leastV_some V.rin).mp V.low
  exact ⟨par fam t, I.par_of h1 h2, (only_some V.rin ⟨h1, h2⟩).mpr ⟨⟨fam, I, rfl, e⟩, fun g hg _ => h g hg⟩⟩
theorem FirstInv.next (R : RowsIn n rows) {w : Int} {i : Nat} {cur : List Rw3} {fnd : Fml} (V : FirstInv n rows w i cur fnd) {a : Int} (h2 : 1 + (i : Int) < n)
    (ha : leastV n (onlyR cur a (1 + (i : Int))) = some w) (hf : ∀ b, hasR cur b (1 + (i : Int)) → leastV n (onlyR cur b (1 + (i : Int))) = some w → a ≤ b) :
    FirstInv n rows w (i + 1) (onlyR cur a (1 + (i : Int))) (fnd ++ [some a]) := by
  have l := V.len
  have old : ∀ t : Int, 1 ≤ t → t < 1 + (i : Int) → (fnd ++ [some a])[t.toNat]? = fnd[t.toNat]? := fun t t1 t2 => List.getElem?_append_left (by omega)
  have new : (fnd ++ [some a])[(1 + (i : Int)).toNat]? = some (some a) := by
    rw [List.getElem?_append_right (by omega)]
    have : (1 + (i : Int)).toNat - fnd.length = 0 := by omega
    rw [this]; rfl
  refine ⟨V.rin.filter _, fun r h => V.sub r (List.mem_filter.mp h).1, by rw [List.length_append, l]; rfl, by rw [List.getElem?_append_left (by omega)]; exact V.root, fun fam => ?_, ha, V.low0, fun g hg hw => ?_⟩
  · rw [isFam_only ⟨by omega, h2⟩, V.isf]
    constructor
    · rintro ⟨⟨I, h⟩, e⟩
      refine ⟨I, fun t t1 t2 => ?_⟩
      by_cases q : t < 1 + (i : Int)
      · rw [old t t1 q]; exact h t t1 q
      · have : t = 1 + (i : Int) := by omega
        rw [this, new, e]
    · rintro ⟨I, h⟩
      refine ⟨⟨I, fun t t1 t2 => by rw [← old t t1 t2]; exact h t t1 (by omega)⟩, ?_⟩
      have := h (1 + (i : Int)) (by omega) (by omega)
      rw [new] at this
      exact (Option.some.inj (Option.some.inj this)).symm
  · rcases V.fst g hg hw with q | ⟨j, b, j1, j2, je, jb, jl⟩
    · have Ic : IsFam n cur g := (V.isf g).mpr ⟨hg, q⟩
      have wc : worth n cur g = w := by rw [worth_to R V.rin hg Ic V.sub]; exact hw
      have hh := (leastV_some V.rin).mp V.low
      have lo : leastV n (onlyR cur (par g (1 + (i : Int))) (1 + (i : Int))) = some w :=
        (only_some V.rin ⟨by omega, h2⟩).mpr ⟨⟨g, Ic, rfl, wc⟩, fun f hf' _ => hh.2 f hf'⟩
      have le := hf _ (Ic.par_of (by omega) h2) lo
      by_cases e : a = par g (1 + (i : Int))
      · refine .inl fun t t1 t2 => ?_
        by_cases z : t < 1 + (i : Int)
        · rw [old t t1 z]; exact q t t1 z
        · have : t = 1 + (i : Int) := by omega
          rw [this, new, e]
      · exact .inr ⟨1 + (i : Int), a, by omega, by omega, fun t t1 t2 => by rw [old t t1 t2]; exact q t t1 t2, new, by omega⟩
    · exact .inr ⟨j, b, j1, by omega, fun t t1 t2 => by rw [old t t1 (by omega)]; exact je t t1 t2, by rw [old j j1 j2]; exact jb, jl⟩
theorem FirstInv.done (R : RowsIn n rows) {w : Int} {i : Nat} {cur : List Rw3} {fnd : Fml} (V : FirstInv n rows w i cur fnd) (h : 1 + (i : Int) = n) : FirstIs n rows fnd := by
  obtain ⟨⟨fam, I, e⟩, hl⟩ := (leastV_some V.rin).mp V.low
  have Q := (V.isf fam).mp I
  have l := Q.1.len
  have l' := V.len
  have ef : fnd = fam := by
    refine List.ext_getElem? fun k => ?_
    by_cases k0 : k = 0
    · rw [k0, V.root, Q.1.root]
    · by_cases hk : (k : Int) < n
      · have a := Q.2 (k : Int) (by omega) (by omega)
        have b := Q.1.par_get (t := (k : Int)) (by omega) hk
        simp only [Int.toNat_natCast] at a b
        rw [a, b]
      · rw [List.getElem?_eq_none (by omega), List.getElem?_eq_none (by omega)]
  rw [ef]
  have wr : worth n rows fam = w := by rw [← worth_to R V.rin Q.1 I V.sub]; exact e
  refine ⟨Q.1, ?_, fun g hg hw => ?_⟩
  · rw [wr]
    exact V.low0
  · rcases V.fst g hg (by rw [hw, wr]) with q | ⟨j, b, j1, j2, je, jb, jl⟩
    · refine .inl fun t t1 t2 => ?_
      have a := Q.2 t t1 (by omega)
      have b := q t t1 (by omega)
      rw [a] at b
      exact Option.some.inj (Option.some.inj b)
    · refine .inr ⟨j, j1, by omega, fun t t1 t2 => ?_, ?_⟩
      · have a := Q.2 t t1 (by omega)
        have b := je t t1 t2
        rw [a] at b
        exact Option.some.inj (Option.some.inj b)
      · have a := Q.2 j j1 j2
        rw [a] at jb
        rw [Option.some.inj (Option.some.inj jb)]
        exact jl
end
end HW

namespace HG
open PySem PySem.Spec PyProof.Rows L2 Evl HW
section
variable {P : Program} {w : World} {K : PySem.W.Frag} {mg : Str → Option Value} {base : Heap}
/-- a def that may be called by its name -/
structure Cal (P : Program) (w : World) (K : PySem.W.Frag) (mg : Str → Option Value) (base : Heap) (k : Nat) (x : Str) (sp : Sp) : Prop where
  ex : ∃ (f : Addr) (fd : FuncData) (ps : List Str), FnOk P w K mg base (L2.CX P w) k f fd ps sp ∧ mg x = some (.ref f) ∧ PySem.W.keepIn K (.ref f) = true ∧ Binds K fd ps []
/-- a method of the class at C -/
structure Met (P : Program) (w : World) (K : PySem.W.Frag) (mg : Str → Option Value) (base : Heap) (k : Nat) (C : Addr) (m : Str) (sp : Sp) : Prop where
  ex : ∃ (f : Addr) (fd : FuncData) (ps : List Str), Cls K C ∧ Meth K C m f ∧ FnOk P w K mg base (L2.CX P w) k f fd ps sp ∧ Binds K fd ps []
/-- a class that may be made by its name; sp: its __init__ -/
structure Mak (P : Program) (w : World) (K : PySem.W.Frag) (mg : Str → Option Value) (base : Heap) (k : Nat) (x : Str) (C : Addr) (sp : Sp) : Prop where
  ex : ∃ (f : Addr) (fd : FuncData) (ps : List Str), Mk K C f ∧ FnOk P w K mg base (L2.CX P w) k f fd ps sp ∧ mg x = some (.ref C) ∧ Binds K fd ps []
theorem Cal.imp {k : Nat} {x : Str} {sp sp' : Sp} (c : Cal P w K mg base k x sp) (h : ∀ vs H Q E, sp' vs H Q E → sp vs H Q E) : Cal P w K mg base k x sp' := by
  obtain ⟨f, fd, ps, F, a, b, d⟩ := c.ex
  exact ⟨f, fd, ps, F.imp h, a, b, d⟩
theorem Cal.mono {j k : Nat} {x : Str} {sp : Sp} (c : Cal P w K mg base j x sp) (h : j ≤ k) : Cal P w K mg base k x sp := by
  obtain ⟨f, fd, ps, F, a, b, d⟩ := c.ex
  exact ⟨f, fd, ps, F.mono h, a, b, d⟩
end
section
variable {X : Cx} {k j : Nat} {C : Addr} {x m : Str} {sp : Sp} {p pos apos : Pos} {e o : Expr} {es : List Expr} {ta : TE} {t : TA} {E : XK}
theorem pe_cX (c : Cal X.prog X.w X.K X.mg X.base k x sp) (hx : Passes (L2.CX X.prog X.w) X E) (hr : Room j X.A) (hk : k ≤ j) (hg : Gl X x) (ha : PA X (e :: es) t) (hdb : (x == ("__debug__" : Str)) = false := by decide)
    (he : starEach (e :: es) X.env = (false, eval e X.env) :: starEach es X.env := by rfl) (hpl : (backTo pos (starEach es X.env)).any (·.1) = false := by rfl) : PE X (.Call (.Name x p) (e :: es) [] pos) (tCall sp [] E t) := by
  obtain ⟨f, fd, ps, F, hm, hk', hb⟩ := c.ex
  exact pe_call F (hr.mono hk) hg hm hk' hb .nil hx ha hdb he hpl
theorem pe_cN (c : Cal X.prog X.w X.K X.mg X.base k x sp) (hr : Room j X.A) (hk : k ≤ j) (hg : Gl X x) (ha : PA X (e :: es) t) (hdb : (x == ("__debug__" : Str)) = false := by decide)
    (he : starEach (e :: es) X.env = (false, eval e X.env) :: starEach es X.env := by rfl) (hpl : (backTo pos (starEach es X.env)).any (·.1) = false := by rfl) : PE X (.Call (.Name x p) (e :: es) [] pos) (tCall sp [] E0 t) :=
  pe_cX c passL hr hk hg ha hdb he hpl
theorem pe_mkX (c : Mak X.prog X.w X.K X.mg X.base k x C sp) (hx : Passes (L2.CX X.prog X.w) X E) (hr : Room j X.A) (hk : k + 1 ≤ j) (hg : Gl X x) (ha : PA X (e :: es) t) (hdb : (x == ("__debug__" : Str)) = false := by decide)
    (he : starEach (e :: es) X.env = (false, eval e X.env) :: starEach es X.env := by rfl) (hpl : (backTo pos (starEach es X.env)).any (·.1) = false := by rfl) : PE X (.Call (.Name x p) (e :: es) [] pos) (tMake C sp [] E t) := by
  obtain ⟨f, fd, ps, M, F, hm, hb⟩ := c.ex
  exact pe_make M F (hr.mono hk) hg hm hb .nil hx ha hdb he hpl
theorem pe_mkC (c : Mak X.prog X.w X.K X.mg X.base k x C sp) (hr : Room j X.A) (hk : k + 1 ≤ j) (hg : Gl X x) (ha : PA X (e :: es) t) (hdb : (x == ("__debug__" : Str)) = false := by decide)
    (he : starEach (e :: es) X.env = (false, eval e X.env) :: starEach es X.env := by rfl) (hpl : (backTo pos (starEach es X.env)).any (·.1) = false := by rfl) : PE X (.Call (.Name x p) (e :: es) [] pos) (tMake C sp [] E0 t) :=
  pe_mkX c passL hr hk hg ha hdb he hpl
theorem pe_mX {pl : Sem Bool} (c : Met X.prog X.w X.K X.mg X.base k C m sp) (hx : Passes (L2.CX X.prog X.w) X E) (hr : Room j X.A) (hk : k ≤ j) (he : PE X o ta) (ha : PA X (e :: es) t)
    (hst : starEach (e :: es) X.env = (false, eval e X.env) :: starEach es X.env := by rfl) (hpl : (backTo pos (starEach es X.env)).any (·.1) = false := by rfl)
    (ht : eval (.Call (.Attribute o m apos) (e :: es) [] pos) X.env = (do let ov ← eval o X.env; standAt apos.atName; let (f, first) ← holding [ov] (getMethod ov m pl); callWith pos f first (backTo pos (starEach (e :: es) X.env)) (backToKw pos (keywordEach [] X.env))) := by rfl) :
    PE X (.Call (.Attribute o m apos) (e :: es) [] pos) (tMeth C m sp [] E ta t) := by
  obtain ⟨f, fd, ps, cl, hm, F, hb⟩ := c.ex
  exact pe_meth he cl hm F (hr.mono hk) hb .nil hx ha hst hpl ht
theorem pe_mN {pl : Sem Bool} (c : Met X.prog X.w X.K X.mg X.base k C m sp) (hr : Room j X.A) (hk : k ≤ j) (he : PE X o ta) (ha : PA X (e :: es) t)
    (hst : starEach (e :: es) X.env = (false, eval e X.env) :: starEach es X.env := by rfl) (hpl : (backTo pos (starEach es X.env)).any (·.1) = false := by rfl)
    (ht : eval (.Call (.Attribute o m apos) (e :: es) [] pos) X.env = (do let ov ← eval o X.env; standAt apos.atName; let (f, first) ← holding [ov] (getMethod ov m pl); callWith pos f first (backTo pos (starEach (e :: es) X.env)) (backToKw pos (keywordEach [] X.env))) := by rfl) :
    PE X (.Call (.Attribute o m apos) (e :: es) [] pos) (tMeth C m sp [] E0 ta t) := pe_mX c passL hr hk he ha hst hpl ht
theorem pe_mN0 {pl : Sem Bool} (c : Met X.prog X.w X.K X.mg X.base k C m sp) (hr : Room j X.A) (hk : k ≤ j) (he : PE X o ta)
    (ht : eval (.Call (.Attribute o m apos) [] [] pos) X.env = (do let ov ← eval o X.env; standAt apos.atName; let (f, first) ← holding [ov] (getMethod ov m pl); callWith pos f first (backTo pos (starEach [] X.env)) (backToKw pos (keywordEach [] X.env))) := by rfl) :
    PE X (.Call (.Attribute o m apos) [] [] pos) (tMeth C m sp [] E0 ta tNil) := by
  obtain ⟨f, fd, ps, cl, hm, F, hb⟩ := c.ex
  exact pe_meth0 he cl hm F (hr.mono hk) hb .nil passL ht
/-- a constant of the module -/
theorem pe_globE {v : V} (hg : Gl X x) (h : ∃ u, X.mg x = some u ∧ RelV v u) (hd : (x == ("__debug__" : Str)) = false := by decide) : PE X (.Name x pos) (tC v) := by
  obtain ⟨u, hm, r⟩ := h
  exact pe_glob hg hm r hd
end
/-! ### the hearings in order -/
def rowOf (e : KP × Int) : Rw3 := (e.1.1, e.1.2, e.2)
def lt2 (r s : Rw3) : Prop := r.1 < s.1 ∨ (r.1 = s.1 ∧ r.2.1 < s.2.1)
def le2 (r s : Rw3) : Bool := decide (r.1 < s.1) || (decide (r.1 = s.1) && decide (r.2.1 ≤ s.2.1))
def rowsOf (kvs : Kvs) : List Rw3 := (kvs.map rowOf).mergeSort le2
theorem le2_iff {r s : Rw3} : le2 r s = true ↔ r.1 < s.1 ∨ (r.1 = s.1 ∧ r.2.1 ≤ s.2.1) := by simp [le2]
theorem rowsOf_perm (kvs : Kvs) : (rowsOf kvs).Perm (kvs.map rowOf) := List.mergeSort_perm _ _
theorem mem_rowsOf {kvs : Kvs} {r : Rw3} : r ∈ rowsOf kvs ↔ ((r.1, r.2.1), r.2.2) ∈ kvs := by
  rw [(rowsOf_perm kvs).mem_iff, List.mem_map]
  constructor
  · rintro ⟨e, he, rfl⟩; exact he
  · intro h; exact ⟨_, h, rfl⟩
theorem nodup_pair {kvs : Kvs} (nd : (kvs.map (·.1)).Nodup) : ∀ e ∈ kvs, ∀ g ∈ kvs, e.1 = g.1 → e = g := by
  induction kvs with
  | nil => intro e he; cases he
  | cons x r ih =>
    have nd' := List.nodup_cons.mp nd
    intro e he g hg h
    cases he with
    | head => cases hg with
      | head => rfl
      | tail _ hg => exact absurd (List.mem_map.mpr ⟨g, hg, h.symm⟩) nd'.1
    | tail _ he => cases hg with
      | head => exact absurd (List.mem_map.mpr ⟨e, he, h⟩) nd'.1
      | tail _ hg => exact ih nd'.2 e he g hg h
theorem rowsOf_lt {kvs : Kvs} (nd : (kvs.map (·.1)).Nodup) : (rowsOf kvs).Pairwise lt2 := by
  have h1 : (rowsOf kvs).Pairwise (fun a b => le2 a b = true) := List.pairwise_mergeSort (fun a b c h1 h2 => by
    rw [le2_iff] at *; omega) (fun a b => by
    have : le2 a b = true ∨ le2 b a = true := by rw [le2_iff, le2_iff]; omega
    simpa using this) _
  have h2 : ((rowsOf kvs).map fun r => (r.1, r.2.1)).Nodup := by
    refine ((rowsOf_perm kvs).map (fun r : Rw3 => (r.1, r.2.1))).symm.nodup ?_
    rw [List.map_map]; exact nd
  have h3 : (rowsOf kvs).Pairwise fun a b => (a.1, a.2.1) ≠ (b.1, b.2.1) := by
    have h2' := h2
    unfold List.Nodup at h2'
    rwa [List.pairwise_map] at h2'
  refine (h1.and h3).imp fun {a b} h => ?_
  have := le2_iff.mp h.1
  have ne : ¬ (a.1 = b.1 ∧ a.2.1 = b.2.1) := fun q => h.2 (Prod.ext q.1 q.2)
  unfold lt2
  omega
theorem lt2_uniq {l m : List Rw3} (hl : l.Pairwise lt2) (hm : m.Pairwise lt2) (p : l.Perm m) : l = m :=
  List.Perm.eq_of_pairwise (le := lt2) (fun a b _ _ h1 h2 => by unfold lt2 at h1 h2; omega) hl hm p
/-- a book that may stand -/
structure GoodB (n : Int) (kvs : Kvs) : Prop where
  n1 : 1 ≤ n
  n2 : n ≤ 12
  nd : (kvs.map (·.1)).Nodup
  rg : ∀ e ∈ kvs, (0 ≤ e.1.1 ∧ e.1.1 < n) ∧ (1 ≤ e.1.2 ∧ e.1.2 < n) ∧ e.1.1 ≠ e.1.2
  c0 : ∀ e ∈ kvs, 0 ≤ e.2
def grid (n : Int) : List KP := (List.range n.toNat).flatMap fun (i : Nat) => (List.range n.toNat).map fun (j : Nat) => ((i : Int), (j : Int))
theorem grid_len (n : Int) : (grid n).length = n.toNat * n.toNat := by
  unfold grid
  have : ∀ l : List Nat, (l.flatMap fun (i : Nat) => (List.range n.toNat).map fun (j : Nat) => ((i : Int), (j : Int))).length = l.length * n.toNat := by
    intro l
    induction l with
    | nil => simp
    | cons x r ih => rw [List.flatMap_cons, List.length_append, ih, List.length_map, List.length_range, List.length_cons, Nat.succ_mul]; omega
  rw [this, List.length_range]
theorem GoodB.small {n : Int} {kvs : Kvs} (G : GoodB n kvs) : kvs.length ≤ 144 := by
  have sub : kvs.map (·.1) ⊆ grid n := fun k hk => by
    obtain ⟨e, he, rfl⟩ := List.mem_map.mp hk
    have r := G.rg e he
    refine List.mem_flatMap.mpr ⟨e.1.1.toNat, List.mem_range.mpr (by omega), List.mem_map.mpr ⟨e.1.2.toNat, List.mem_range.mpr (by omega), Prod.ext ?_ ?_⟩⟩
    · show ((e.1.1.toNat : Nat) : Int) = e.1.1; omega
    · show ((e.1.2.toNat : Nat) : Int) = e.1.2; omega
  have := G.nd.length_le_of_subset sub
  rw [List.length_map, grid_len] at this
  have h12 : n.toNat ≤ 12 := by have := G.n2; omega
  have : n.toNat * n.toNat ≤ 12 * 12 := Nat.mul_le_mul h12 h12
  omega
theorem GoodB.rin {n : Int} {kvs : Kvs} (G : GoodB n kvs) : RowsIn n (rowsOf kvs) where
  a0 := fun r hr => (G.rg _ (mem_rowsOf.mp hr)).1
  b0 := fun r hr => (G.rg _ (mem_rowsOf.mp hr)).2.1
  c0 := fun r hr => G.c0 _ (mem_rowsOf.mp hr)
  uq := fun r hr q hq e1 e2 => by
    have := nodup_pair G.nd _ (mem_rowsOf.mp hr) _ (mem_rowsOf.mp hq) (Prod.ext e1 e2)
    exact congrArg (·.2) this
theorem rowsOf_len (kvs : Kvs) : (rowsOf kvs).length = kvs.length := by rw [(rowsOf_perm kvs).length_eq, List.length_map]

/-! ### the key tuples, sorted -/
def IsKP (H : Hp) (v : V) (k : KP) : Prop := ∃ t, v = .ref t ∧ H t = some (.tup [.int k.1, .int k.2])
def keyAt (H : Hp) (v : V) : KP := match v with
  | .ref t => (match H t with
    | some (.tup [.int i, .int j]) => (i, j)
    | _ => (0, 0))
  | _ => (0, 0)
theorem keyAt_of {H : Hp} {v : V} {k : KP} (h : IsKP H v k) : keyAt H v = k := by
  obtain ⟨t, rfl, h2⟩ := h
  show (match H t with
    | some (.tup [.int i, .int j]) => (i, j)
    | _ => (0, 0)) = k
  rw [h2]
theorem getP_of {kvs : Kvs} (nd : (kvs.map (·.1)).Nodup) {k : KP} {c : Int} (h : (k, c) ∈ kvs) : getP kvs k = some c := by
  unfold getP
  cases e : kvs.find? fun e => decide (e.1 = k) with
  | none =>
    have := List.find?_eq_none.mp e _ h
    simp at this
  | some x =>
    have h1 := List.find?_some e
    have h2 := List.mem_of_find?_eq_some e
    have := nodup_pair nd x h2 _ h (by simpa using h1)
    rw [this]; rfl
theorem getP_mem {kvs : Kvs} {k : KP} {c : Int} (h : getP kvs k = some c) : (k, c) ∈ kvs := by
  unfold getP at h
  cases e : kvs.find? fun e => decide (e.1 = k) with
  | none => rw [e] at h; cases h
  | some x =>
    rw [e] at h
    have h1 := List.find?_some e
    have h2 := List.mem_of_find?_eq_some e
    have e1 : x.1 = k := by simpa using h1
    have e2 : x.2 = c := Option.some.inj h
    rw [← e1, ← e2]; exact h2
/-- the tuples of the keys, sorted, stand for the pairs of the rows in order -/
theorem sorted_keys {H : Hp} {kvs : Kvs} (nd : (kvs.map (·.1)).Nodup) {bs ys : List V} (hb : Paired (IsKP H) bs (kvs.map (·.1))) (hp : ys.Perm bs) (hs : ys.Pairwise fun x y => SrtO.lexB (keyAt H y) (keyAt H x) = false) :
    Paired (IsKP H) ys ((rowsOf kvs).map fun r => (r.1, r.2.1)) := by
  have all : ∀ v ∈ ys, IsKP H v (keyAt H v) := fun v hv => by
    obtain ⟨i, hi⟩ := List.mem_iff_getElem?.mp (hp.mem_iff.mp hv)
    obtain ⟨k, _, hk⟩ := pr_get hb hi
    rw [keyAt_of hk]; exact hk
  have ekeys : bs.map (keyAt H) = kvs.map (·.1) := by
    have : ∀ {bs : List V} {l : List KP}, Paired (IsKP H) bs l → bs.map (keyAt H) = l := by
      intro bs l h
      induction h with
      | nil => rfl
      | cons r t ih => rw [List.map_cons, keyAt_of r, ih]
    exact this hb
  have pk : (ys.map (keyAt H)).Perm (kvs.map (·.1)) := ekeys ▸ hp.map _
  have ndk : (ys.map (keyAt H)).Nodup := pk.symm.nodup nd
  have lt : (ys.map (keyAt H)).Pairwise fun a b => a.1 < b.1 ∨ (a.1 = b.1 ∧ a.2 < b.2) := by
    rw [List.pairwise_map]
    have nd2 : ys.Pairwise fun a b => keyAt H a ≠ keyAt H b := by
      have z := ndk
      unfold List.Nodup at z
      rwa [List.pairwise_map] at z
    refine (hs.and nd2).imp fun {a b} h => ?_
    have h1 := SrtO.lexB_no.mp h.1
    have h2 : ¬ ((keyAt H a).1 = (keyAt H b).1 ∧ (keyAt H a).2 = (keyAt H b).2) := fun q => h.2 (Prod.ext q.1 q.2)
    omega
  have lt' : ((rowsOf kvs).map fun r => (r.1, r.2.1)).Pairwise fun a b => a.1 < b.1 ∨ (a.1 = b.1 ∧ a.2 < b.2) := by
    rw [List.pairwise_map]
    exact (rowsOf_lt nd).imp fun {a b} h => h
  have e : ys.map (keyAt H) = (rowsOf kvs).map fun r => (r.1, r.2.1) := by
    refine List.Perm.eq_of_pairwise (fun a b _ _ h1 h2 => by omega) lt lt' (pk.trans ?_)
    have := ((rowsOf_perm kvs).map (fun r : Rw3 => (r.1, r.2.1))).symm
    rw [List.map_map] at this
    exact this
  rw [← e]
  have : ∀ l : List V, (∀ v ∈ l, IsKP H v (keyAt H v)) → Paired (IsKP H) l (l.map (keyAt H)) := by
    intro l
    induction l with
    | nil => exact fun _ => .nil
    | cons v r ih => exact fun h => .cons (h v (List.mem_cons_self ..)) (ih fun u hu => h u (List.mem_cons_of_mem _ hu))
  exact this ys all

theorem keys_kp {H : Hp} {l : Kvs} {bs : List Addr} (h : IsKeys H (bk l) bs) : Paired (IsKP H) (bs.map V.ref) (l.map (·.1)) := by
  unfold IsKeys bk at h
  have : ∀ {l : Kvs} {bs : List Addr}, Paired (fun (p : List Key × V) b => H b = some (.tup (p.1.map kV))) (l.map fun e => (keyP e.1, V.int e.2)) bs → Paired (IsKP H) (bs.map V.ref) (l.map (·.1)) := by
    intro l
    induction l with
    | nil => intro bs h; cases h; exact .nil
    | cons e r ih =>
      intro bs h
      cases h with
      | cons a t => exact .cons ⟨_, rfl, a⟩ (ih t)
  exact this h
abbrev aRow : Ty Rw3 := aT aI aI aI
/-! ### exceptions of one's own -/
structure ExcF (K : PySem.W.Frag) (mg : Str → Option Value) (x : Str) : Prop where
  g : mg x = some (.ref (He.ga K x))
  e : PySem.W.excIn K (He.ga K x) He.veBase "ValueError.__new__" = true
  k : PySem.W.keepIn K (.ref (He.ga K x)) = true
  s : PySem.W.subIn K (.ref (He.ga K x)) (.type "BaseException") = some true
  t : PySem.W.typeIn K (.ref (He.ga K x)) = some (.type "type")
theorem ExcF.mk' {X : Cx} {x m : Str} {j : Nat} {p p2 pos : Pos} (F : ExcF X.K X.mg x) (hg : Gl X x) (hdb : (x == ("__debug__" : Str)) = false := by decide) : PMk X (.Call (.Name x p) [.Constant (.str m) j p2] [] pos) (fun _ H Q => Q (.ref (He.ga X.K x)) none H) :=
  pmk_own PySem.F.excBase_ValueError F.e F.g F.k (raises_own F.s F.t) hg hdb
theorem ExcF.mkK {X : Cx} {K : PySem.W.Frag} {mg : Str → Option Value} {x m : Str} {j : Nat} {p p2 pos : Pos} (F : ExcF K mg x) (hK : X.K = K) (hm : X.mg = mg) (hg : Gl X x) (hdb : (x == ("__debug__" : Str)) = false := by decide) :
    PMk X (.Call (.Name x p) [.Constant (.str m) j p2] [] pos) (fun _ H Q => Q (.ref (He.ga K x)) none H) := by
  subst hK hm
  exact F.mk' hg hdb
/-! ### the book: what reads it -/
section
variable {K : PySem.W.Frag} {C : Addr} {c : Cw} {Γ : List Spec} {ta te td : TE}
theorem eg_size {b : Bk} (h : EB C c Γ ta b) (cl : Cls K C) (n : NoAttr K C "size") : EG c Γ (tFld K ta "size") aI b.1 := fun σ F Ms H w Q q =>
  h σ F Ms H w _ fun p d dx F1 H1 s1 B => ⟨p, C, dx, _, _, rfl, B.ob, cl, n, flds_size _ _, q _ F1 H1 s1 rfl⟩
theorem edt_costs {b : Bk} (h : EB C c Γ ta b) (cl : Cls K C) (n : NoAttr K C "costs") : EDT c Γ (tFld K ta "costs") b.2 := fun σ F Ms H w Q q =>
  h σ F Ms H w _ fun p d dx F1 H1 s1 B => ⟨p, C, dx, _, _, rfl, B.ob, cl, n, flds_costs _ _, q d F1 H1 s1 B.dc⟩
def rListT : List V → Hp → VK → Prop := fun xs H Q => ∃ d kvs, xs = [V.ref d] ∧ Rd H d (.dT kvs) ∧ ∀ p bs, H p = none → IsKeys H kvs bs → Q (.ref p) (upd H p (.lst (bs.map V.ref)))
/-- [(pair[0], pair[1], d[pair]) for pair in sorted(list(d))] -/
theorem en_rows {kvs : Kvs} {j : Nat} (h1 : EDT c Γ ta kvs) (h2 : EDT c (Γ.set j .any) td kvs) (hj : j < Γ.length) (nd : (kvs.map (·.1)).Nodup) (hz : kvs.length < 100000) :
    EN c Γ (tLc (iList K (tCB (rSortedPO K) (tCons (tCB rListT (tCons ta tNil)) tNil))) (gName j) tYes
      (tTup (tCons (tOp (rIxT K) (tVar j) (tC (.int 0))) (tCons (tOp (rIxT K) (tVar j) (tC (.int 1))) (tCons (tDGet td (tVar j)) tNil)))) [j]) (oL aRow) (rowsOf kvs) := fun σ F Ms H w Q q => by
  refine h1 σ F Ms H w _ fun d F1 H1 s1 e1 => ⟨d, bk kvs, rfl, .inl e1, fun p bs hp hb => ?_⟩
  have kp := keys_kp hb
  have s2 : Stp F1 H1 F1 (upd H1 p (.lst (bs.map V.ref))) := Stp.heap s1.fh (Ex.new hp)
  refine ⟨p, bs.map V.ref, keyAt H1, rfl, .inl (.inl upd_same), fun x hx => ?_, fun ys p2 hs hst hp2 => ?_⟩
  · obtain ⟨i, hi⟩ := List.mem_iff_getElem?.mp hx
    obtain ⟨k, _, hk⟩ := pr_get kp hi
    obtain ⟨t, rfl, ht⟩ := hk
    refine ⟨t, rfl, ?_⟩
    rw [keyAt_of ⟨t, rfl, ht⟩]
    exact s2.h _ _ ht
  have s3 : Stp F1 (upd H1 p (.lst (bs.map V.ref))) F1 (upd (upd H1 p (.lst (bs.map V.ref))) p2 (.lst ys)) := Stp.heap s2.fh (Ex.new hp2)
  have e13 := (s2.trans s3).h
  have sk : Paired (IsKP H1) ys ((rowsOf kvs).map fun r => (r.1, r.2.1)) := sorted_keys nd kp hst.perm hs
  refine ⟨p2, rfl, ⟨ys, .inl (.inl upd_same)⟩, fun D hD => ?_⟩
  have s13 := s1.trans (s2.trans s3)
  refine lc_list (K := K) (a := p2) (xs := ys) (fun i H' => ∃ F', Lw aRow F1 (upd (upd H1 p (.lst (bs.map V.ref))) p2 (.lst ys)) D ((rowsOf kvs).take i) F' H') ⟨F1, Lw.start s3.fh hD⟩ (fun i H' _ ⟨F', lw⟩ => .inl (.inl (lw.st.h _ _ upd_same))) ?_ ?_
  · rintro i v H' hv ⟨F', lw⟩
    obtain ⟨k, hk, t, rfl, ht⟩ := pr_get sk hv
    rw [List.getElem?_map] at hk
    obtain ⟨r, hr, rfl⟩ := Option.map_eq_some_iff.mp hk
    have hc : getP kvs (r.1, r.2.1) = some r.2.2 := getP_of nd (mem_rowsOf.mp (List.mem_of_getElem? hr))
    have ht' : H' t = some (.tup [.int r.1, .int r.2.1]) := lw.st.h _ _ (e13 _ _ ht)
    refine ⟨wipe1, ?_⟩
    unfold tYes
    dsimp only
    rw [if_pos rfl, wipe_set]
    have hv : (σ.set j (some (V.ref t)))[j]? = some (some (V.ref t)) := List.getElem?_set_self (by rw [← w.len]; exact hj)
    refine ⟨_, hv, t, _, 0, _, rfl, rfl, .inl (.inl ht'), rfl, ?_⟩
    refine ⟨_, hv, t, _, 1, _, rfl, rfl, .inl (.inl ht'), rfl, ?_⟩
    have w4 := (w.step (s13.trans lw.st)).lose j (some (V.ref t))
    refine h2 _ F' Ms H' w4 _ fun a F5 H5 s5 e5 => ⟨_, hv, a, .int r.2.2, rfl, ?_, (by show 3 ≤ sizeLine; decide), fun p6 hp6 => ?_⟩
    · have := dget_bk (k := (r.1, r.2.1)) e5 (s5.h _ _ ht')
      rw [hc] at this
      exact this
    have s6 := Stp.new (o := .tup [.int r.1, .int r.2.1, .int r.2.2]) s5.fh hp6
    have l6 := (lw.step s5).step s6
    obtain ⟨us, g1, g2⟩ := l6.it
    refine ⟨us, g1, sz_lt ?_, upd F5 p6 (.tup [.int r.1, .int r.2.1, .int r.2.2]), ?_⟩
    · rw [pr_len g2, List.length_take, rowsOf_len]; omega
    have := l6.app hD g1 g2 (x := r) (v := .ref p6) ⟨p6, _, _, _, rfl, upd_same, rfl, rfl, rfl⟩
    have et : (rowsOf kvs).take (i + 1) = (rowsOf kvs).take i ++ [r] := by rw [List.take_add_one, hr]; rfl
    rw [et]
    exact this
  · rintro H' ⟨F', lw⟩
    have e : ys.length = (rowsOf kvs).length := by have := pr_len sk; rw [List.length_map] at this; exact this
    rw [e, List.take_length] at lw
    exact lw.done s13 hD q
end
/-! ### the book: what changes it -/
/-- why two numbers are refused -/
def askX (K : PySem.W.Frag) (n i j : Int) : Option Addr :=
  if ¬ ((0 ≤ i ∧ i < n) ∧ (0 ≤ j ∧ j < n)) then some (He.ga K "NoTeller") else if i = j then some (He.ga K "Alone") else if j = 0 then some (He.ga K "First") else none
theorem askX_ok {K : PySem.W.Frag} {n i j : Int} (h1 : 0 ≤ i ∧ i < n) (h2 : 1 ≤ j ∧ j < n) (h3 : i ≠ j) : askX K n i j = none := by
  unfold askX
  rw [if_neg (fun q => q ⟨h1, by omega, h2.2⟩), if_neg h3, if_neg (by omega)]
theorem askX_none {K : PySem.W.Frag} {n i j : Int} (h : askX K n i j = none) : (0 ≤ i ∧ i < n) ∧ (1 ≤ j ∧ j < n) ∧ i ≠ j := by
  unfold askX at h
  split at h
  · cases h
  · rename_i h1
    split at h
    · cases h
    · split at h
      · cases h
      · have := Classical.not_not.mp h1
        omega
def spInit (K : PySem.W.Frag) (C : Addr) : Sp := fun vs H Q E => ∃ (p dx : Addr) (n : Int), vs = [.ref p, .int n] ∧ H p = some (.ins C dx []) ∧
  (1 ≤ n ∧ n ≤ 12 → ∀ (d : Addr) (H' : Hp), H d = none → BookAt C H' p d dx (n, []) → (∀ b o, b ≠ p → H b = some o → H' b = some o) → Q .non H') ∧
  (¬ (1 ≤ n ∧ n ≤ 12) → ∀ H', Ex H H' → E (.ref (He.ga K "NoBook")) none H')
def spLet (K : PySem.W.Frag) (C : Addr) : Sp := fun vs H Q E => ∃ (p d dx : Addr) (b : Bk) (i j k : Int), vs = [.ref p, .int i, .int j, .int k] ∧ BookAt C H p d dx b ∧ b.2.length ≤ 1000 ∧
  match askX K b.1 i j with
  | none => ∀ H', (∀ a o, a ≠ d → H a = some o → H' a = some o) → H' d = some (.dT (bk (putP b.2 (i, j) k))) → Q (.int ((putP b.2 (i, j) k).length : Nat)) H'
  | some B => ∀ H', Ex H H' → E (.ref B) none H'
def banX (K : PySem.W.Frag) (b : Bk) (i j : Int) : Option Addr := match askX K b.1 i j with
  | some B => some B
  | none => if (getP b.2 (i, j)).isSome = true then none else some (He.ga K "NoHearing")
def spBan (K : PySem.W.Frag) (C : Addr) : Sp := fun vs H Q E => ∃ (p d dx : Addr) (b : Bk) (i j : Int), vs = [.ref p, .int i, .int j] ∧ BookAt C H p d dx b ∧ b.2.length ≤ 1000 ∧
  match banX K b i j with
  | none => ∀ H', (∀ a o, a ≠ d → H a = some o → H' a = some o) → H' d = some (.dT (bk (dropP b.2 (i, j)))) → Q (.int ((dropP b.2 (i, j)).length : Nat)) H'
  | some B => ∀ H', Ex H H' → E (.ref B) none H'
section
variable {K : PySem.W.Frag} {C : Addr} {c : Cw} {Γ : List Spec} {ta tb te td : TE} {E : XK}
/-- Book(n) -/
theorem en_make {n : Int} (h : EG c Γ ta aI n) (hn : 1 ≤ n ∧ n ≤ 12) : EN c Γ (tMake C (spInit K C) [] E (tCons ta tNil)) (oBk C) (n, []) := fun σ F Ms H w Q q =>
  h σ F Ms H w _ fun v F1 H1 s1 r1 => fun x dx hx hdx ne => by
    have e0 : Ex H1 (upd (upd H1 dx (.own x)) x (.ins C dx [])) := Ex.mut (Ex.new hdx) hx
    refine ⟨x, dx, n, by rw [show v = V.int n from r1]; rfl, upd_same, fun _ d H' hd B keep => ⟨rfl, ?_⟩, fun k => (k hn).elim⟩
    have hd1 : H1 d = none := fresh_back e0 hd
    have e1 : Ex H1 H' := fun a o ho => by
      have ax : a ≠ x := ne_of_none ho hx
      exact keep a o ax (e0 a o ho)
    refine q _ F1 (bkH C x d dx (n, [])) H' (s1.trans (Stp.heap s1.fh e1)) (bkH_ex B) (fun a o ho => ?_) ⟨x, d, dx, rfl, B.ne, rfl⟩
    have e3 : H1 a = none := by
      rcases bkH_some ho with ⟨rfl, _⟩ | ⟨_, rfl, _⟩
      · exact hd1
      · exact hx
    exact ⟨fresh_back s1.h e3, fresh_back s1.fh e3⟩
theorem xg_make {n : Int} (h : EG c Γ ta aI n) (hn : ¬ (1 ≤ n ∧ n ≤ 12)) : XG c Γ (tMake C (spInit K C) [] E (tCons ta tNil)) E (He.ga K "NoBook") := fun σ F Ms H w x Q =>
  h σ F Ms H w _ fun v F1 H1 s1 r1 => fun p dx hp hdx ne => by
    have e0 : Ex H1 (upd (upd H1 dx (.own p)) p (.ins C dx [])) := Ex.mut (Ex.new hdx) hp
    refine ⟨p, dx, n, by rw [show v = V.int n from r1]; rfl, upd_same, fun k => (hn k).elim, fun _ H' e => ?_⟩
    have w1 := (w.step s1).step (Stp.heap s1.fh (e0.trans e))
    exact x H' w1.exc
/-- the dict of a book in a slot changes -/
theorem Wd.mutBk {σ : L2.St} {F H H' : Hp} {Ms : Nat → Hp} (w : Wd c Γ σ F Ms H) {b : Bk} {kvs : Kvs} {i : Nat} (h : Γ[i]? = some (.own (oBk C) b)) {p d dx : Addr} (hm : Ms i = bkH C p d dx b) (n : p ≠ d) (hv : σ[i]? = some (some (.ref p)))
    (keep : ∀ a o, a ≠ d → H a = some o → H' a = some o) (hd : H' d = some (.dT (bk kvs))) : ∃ Ms', Wd c (Γ.set i (.own (oBk C) (b.1, kvs))) σ F Ms' H' := by
  obtain ⟨v', h1, h2, m, k⟩ := w.mut (κ' := oBk C) (y := (b.1, kvs)) h
  have ev : v' = .ref p := by rw [hv] at h1; exact (Option.some.inj (Option.some.inj h1)).symm
  subst ev
  have B : BookAt C H p d dx b := (bkH_at n).up (hm ▸ m)
  have B' : BookAt C H' p d dx (b.1, kvs) := ⟨keep _ _ n B.ob, hd⟩
  have dm : Ms i d = some (.dT (bk b.2)) := by rw [hm]; exact (bkH_at n).dc
  have pm : Ms i p = some (.ins C dx (flds b.1 d)) := by rw [hm]; exact (bkH_at n).ob
  have fd : F d = none := w.mf i _ _ dm
  refine ⟨_, k (bkH C p d dx (b.1, kvs)) F H' (Ex.refl _) (bkH_ex B') (fun a o ho hn => keep a o (fun e => by rw [e, dm] at hn; cases hn) ho) (fun a ⟨o, ho⟩ => ?_) (fun a o ho => ?_) (fun a o ho => ?_) (fun a o ho => keep a o (fun e => by rw [e, fd] at ho; cases ho) (w.fx _ _ ho)) (fun a o q n => by rw [q] at n; cases n) ⟨p, d, dx, rfl, n, rfl⟩⟩
  · rw [hm] at ho
    rcases bkH_some ho with ⟨rfl, _⟩ | ⟨_, rfl, _⟩
    · exact ⟨_, hd⟩
    · exact ⟨_, B'.ob⟩
  · rcases bkH_some ho with ⟨rfl, _⟩ | ⟨_, rfl, _⟩
    · exact .inl ⟨_, dm⟩
    · exact .inl ⟨_, pm⟩
  · rcases bkH_some ho with ⟨rfl, _⟩ | ⟨_, rfl, _⟩
    · exact fd
    · exact w.mf i _ _ pm
theorem em_let {b : Bk} {i : Nat} {x y z : Int} {tz : TE} (h : Γ[i]? = some (.own (oBk C) b)) (hx : EG c Γ ta aI x) (hy : EG c Γ tb aI y) (hz : EG c Γ tz aI z) (ok : askX K b.1 x y = none) (hl : b.2.length ≤ 1000) :
    EM c Γ (tMeth C "let" (spLet K C) [] E (tVar i) (tCons ta (tCons tb (tCons tz tNil)))) (Γ.set i (.own (oBk C) (b.1, putP b.2 (x, y) z))) aI ((putP b.2 (x, y) z).length : Nat) := fun σ F Ms H w Q q => by
  obtain ⟨v, h1, p, d, dx, e, n, m⟩ := w.ok i _ h
  subst e
  have B : BookAt C H p d dx b := (bkH_at n).up (m ▸ w.mx i)
  refine ⟨_, h1, p, dx, _, rfl, B.ob, flds_no _ _ (by decide +kernel) (by decide +kernel), hx σ F Ms H w _ fun v1 F1 H1 s1 r1 => hy σ F1 Ms H1 (w.step s1) _ fun v2 F2 H2 s2 r2 => hz σ F2 Ms H2 ((w.step s1).step s2) _ fun v3 F3 H3 s3 r3 => ?_⟩
  have w3 := ((w.step s1).step s2).step s3
  refine ⟨p, d, dx, b, x, y, z, by rw [show v1 = V.int x from r1, show v2 = V.int y from r2, show v3 = V.int z from r3]; rfl, B.up ((s1.trans s2).trans s3).h, hl, ?_⟩
  rw [ok]
  intro H' keep hd
  obtain ⟨Ms', w4⟩ := w3.mutBk h m n h1 keep hd
  exact q _ F3 Ms' H' w4 rfl
theorem xg_let {b : Bk} {x y z : Int} {tz : TE} {B : Addr} (h : EB C c Γ te b) (hx : EG c Γ ta aI x) (hy : EG c Γ tb aI y) (hz : EG c Γ tz aI z) (ok : askX K b.1 x y = some B) (hl : b.2.length ≤ 1000) :
    XG c Γ (tMeth C "let" (spLet K C) [] E te (tCons ta (tCons tb (tCons tz tNil)))) E B := fun σ F Ms H w k Q =>
  h σ F Ms H w _ fun p d dx F0 H0 s0 B0 => by
  refine ⟨p, dx, _, rfl, B0.ob, flds_no _ _ (by decide +kernel) (by decide +kernel), hx σ F0 Ms H0 (w.step s0) _ fun v1 F1 H1 s1 r1 => hy σ F1 Ms H1 ((w.step s0).step s1) _ fun v2 F2 H2 s2 r2 => hz σ F2 Ms H2 (((w.step s0).step s1).step s2) _ fun v3 F3 H3 s3 r3 => ?_⟩
  have w3 := (((w.step s0).step s1).step s2).step s3
  refine ⟨p, d, dx, b, x, y, z, by rw [show v1 = V.int x from r1, show v2 = V.int y from r2, show v3 = V.int z from r3]; rfl, B0.up ((s1.trans s2).trans s3).h, hl, ?_⟩
  rw [ok]
  intro H' e
  exact k H' (w3.step (Stp.heap w3.fx e)).exc
theorem em_ban {b : Bk} {i : Nat} {x y : Int} (h : Γ[i]? = some (.own (oBk C) b)) (hx : EG c Γ ta aI x) (hy : EG c Γ tb aI y) (ok : banX K b x y = none) (hl : b.2.length ≤ 1000) :
    EM c Γ (tMeth C "ban" (spBan K C) [] E (tVar i) (tCons ta (tCons tb tNil))) (Γ.set i (.own (oBk C) (b.1, dropP b.2 (x, y)))) aI ((dropP b.2 (x, y)).length : Nat) := fun σ F Ms H w Q q => by
  obtain ⟨v, h1, p, d, dx, e, n, m⟩ := w.ok i _ h
  subst e
  have B : BookAt C H p d dx b := (bkH_at n).up (m ▸ w.mx i)
  refine ⟨_, h1, p, dx, _, rfl, B.ob, flds_no _ _ (by decide +kernel) (by decide +kernel), hx σ F Ms H w _ fun v1 F1 H1 s1 r1 => hy σ F1 Ms H1 (w.step s1) _ fun v2 F2 H2 s2 r2 => ?_⟩
  have w3 := (w.step s1).step s2
  refine ⟨p, d, dx, b, x, y, by rw [show v1 = V.int x from r1, show v2 = V.int y from r2]; rfl, B.up (s1.trans s2).h, hl, ?_⟩
  rw [ok]
  intro H' keep hd
  obtain ⟨Ms', w4⟩ := w3.mutBk h m n h1 keep hd
  exact q _ F2 Ms' H' w4 rfl
theorem xg_ban {b : Bk} {x y : Int} {B : Addr} (h : EB C c Γ te b) (hx : EG c Γ ta aI x) (hy : EG c Γ tb aI y) (ok : banX K b x y = some B) (hl : b.2.length ≤ 1000) :
    XG c Γ (tMeth C "ban" (spBan K C) [] E te (tCons ta (tCons tb tNil))) E B := fun σ F Ms H w k Q =>
  h σ F Ms H w _ fun p d dx F0 H0 s0 B0 => by
  refine ⟨p, dx, _, rfl, B0.ob, flds_no _ _ (by decide +kernel) (by decide +kernel), hx σ F0 Ms H0 (w.step s0) _ fun v1 F1 H1 s1 r1 => hy σ F1 Ms H1 ((w.step s0).step s1) _ fun v2 F2 H2 s2 r2 => ?_⟩
  have w3 := ((w.step s0).step s1).step s2
  refine ⟨p, d, dx, b, x, y, by rw [show v1 = V.int x from r1, show v2 = V.int y from r2]; rfl, B0.up (s1.trans s2).h, hl, ?_⟩
  rw [ok]
  intro H' e
  exact k H' (w3.step (Stp.heap w3.fx e)).exc
end
end HG

/-! the kit's rules, the written part by its name and the room last -/
namespace HG
open PySem PySem.Spec PyProof.Rows L2 Evl
section
variable {X : Cx} {o i e f value : Expr} {es : List Expr} {pos pos' apos cpos : Pos} {td ty tv tx ta : TE} {t : TA} {K : PySem.W.Frag} {name : Str}
theorem qe_dget (ho : PE X o td) (hi : PE X i ty) (hs : NoSl i) (hu : X.A.units + 1 < cLine) : PE X (.Subscript o i pos) (tDGet td ty) := pe_dget hu ho hi hs
theorem qc_din (hi : PE X i ty) (ho : PE X o td) (hu : X.A.units + 1 < cLine) : PC X .In i o (tDIn ty td) := pc_din hu hi ho
theorem qc_dnotin (hi : PE X i ty) (ho : PE X o td) (hu : X.A.units + 1 < cLine) : PC X .NotIn i o (tDNotIn ty td) := pc_dnotin hu hi ho
theorem qs_dput (ho : PE X o td) (hi : PE X i ty) (hv : PE X value tv) (hs : swapsWith value (some (.Subscript o i pos')) pos.line X.env = pure false) (hu : X.A.units + 1 < cLine) : PS X (.Assign [.Subscript o i pos'] value pos) (sDPut td ty tv) := ps_dput hu ho hi hv hs
theorem qe_dget1 (ho : PE X o td) (he : PE X e ty) (m : M1 X o "get" apos e cpos) (hu : X.A.units + 1 < cLine) : PE X (.Call (.Attribute o "get" apos) [e] [] cpos) (tDGet1 td ty) := pe_dget1 hu ho he m
theorem qe_fld {g : Str} (he : PE X e ta) (hb : attributeBase e g X.env (eval e X.env) = eval e X.env) (hK : X.K = K) : PE X (.Attribute e g pos) (tFld K ta g) := hK ▸ pe_fld he hb
theorem qs_fld {g : Str} (ha : PE X o ta) (hv : PE X value tv) (hs : swapsWith value (some (.Attribute o g pos')) pos.line X.env = pure false) (hK : X.K = K) : PS X (.Assign [.Attribute o g pos'] value pos) (sFld K ta tv g) := hK ▸ ps_fld ha hv hs
theorem qx_list (hK : X.K = K) : IxR X (rIxL K) := hK ▸ ix_list
theorem qx_tup (hK : X.K = K) : IxR X (rIxT K) := hK ▸ ix_tup
theorem qo_in (hK : X.K = K) : OpR X (compareOp .In) (rIn K false) := hK ▸ op_in_seq
theorem qo_nin (hK : X.K = K) : OpR X (compareOp .NotIn) (rIn K true) := hK ▸ op_notIn_seq
theorem qo_eqD (hK : X.K = K) (hu : X.A.units + 64 < cLine) : OpR X (compareOp .Eq) (rEqD K) := hK ▸ op_eqD hu
theorem qo_neD (hK : X.K = K) (hu : X.A.units + 64 < cLine) : OpR X (compareOp .NotEq) (rNeD K) := hK ▸ op_neD hu
theorem qb_len (hK : X.K = K) : CallR X (.builtin "len") (rLenS K) := hK ▸ call_len_seq
theorem qb_list (hK : X.K = K) : CallR X (.type "list") (rListS K) := hK ▸ call_list_of
theorem qb_sum (hK : X.K = K) (hc : X.calm = true) : CallR X (.builtin "sum") (rSum K) := hK ▸ cr_sum hc
theorem qb_all (hK : X.K = K) (hc : X.calm = true) : CallR X (.builtin "all") (rAll K) := hK ▸ cr_all hc
theorem qb_min (hK : X.K = K) (hc : X.calm = true) : CallR X (.builtin "min") (rMin K) := hK ▸ cr_min hc
theorem qb_sortedI (hK : X.K = K) : CallR X (.builtin "sorted") (rSortedI K) := hK ▸ cr_sortedI
theorem qb_sortedPO (hK : X.K = K) : CallR X (.builtin "sorted") (rSortedPO K) := hK ▸ cr_sortedPO
theorem qb_isi (hK : X.K = K) : CallR X (.builtin "isinstance") (rIsi K) := hK ▸ call_isi
theorem qb_listT (hc : X.calm = true) : CallR X (.type "list") rListT := call_list_dT hc
theorem qb_max2 (hc : X.calm = true) : CallR X (.builtin "max") rMax2 := call_max2 hc
theorem ql_list (hK : X.K = K) : SlR X (rSlL K) := hK ▸ sl_list
theorem qm_index (hK : X.K = K) : MtR X "list.index" (rIndex K) := hK ▸ mt_index
theorem qi_list {tg l : Expr} {tl : TE} (hK : X.K = K) (hl : PE X l tl) : PI X tg l (iList K tl) := hK ▸ pi_list hl
theorem qi_tup {tg l : Expr} {tl : TE} (hK : X.K = K) (hl : PE X l tl) : PI X tg l (iTup K tl) := hK ▸ pi_tup hl
theorem qe_bm0 {T id : String} {r : V → List V → Hp → VK → Prop} (hK : X.K = K) (pa : PlainAttrs T) (slot : Slot T name id) (hty : typeOf (.builtin id) = pure (.type "method_descriptor")) (hm : MtR X id r) (ho : PE X o ta)
    (hbase : attributeBase o name X.env (eval o X.env) = eval o X.env := by rfl) (hline : (apos.endLine == cpos.line) = true := by rfl) : PE X (.Call (.Attribute o name apos) [] [] cpos) (tBM0 K T r ta) := hK ▸ pe_bm0 pa slot hty hm ho hbase hline
theorem qe_bm {T id : String} {r : V → List V → Hp → VK → Prop} (hK : X.K = K) (pa : PlainAttrs T) (slot : Slot T name id) (hty : typeOf (.builtin id) = pure (.type "method_descriptor")) (hm : MtR X id r) (ho : PE X o ta) (ha : PA X (e :: es) t)
    (hbase : attributeBase o name X.env (eval o X.env) = eval o X.env := by rfl)
    (hfew : ((backTo cpos (starEach (e :: es) X.env)).all (fun x => !x.1) && (backToKw cpos (keywordEach [] X.env)).all (fun x => x.1.isSome)
      && decide ((e :: es).length + ([] : List Keyword).length + (if ([] : List Keyword).isEmpty then 0 else 1) < 30)) = true := by rfl)
    (hline : (apos.endLine == cpos.line) = true := by rfl) (hs : starEach (e :: es) X.env = (false, eval e X.env) :: starEach es X.env := by rfl) (hplain : (backTo cpos (starEach es X.env)).any (·.1) = false := by rfl) :
    PE X (.Call (.Attribute o name apos) (e :: es) [] cpos) (tBM K T r ta t) := hK ▸ pe_bm pa slot hty hm ho ha hbase hfew hline hs hplain
/-- comprehensions with one name of their own -/
theorem qe_lc {elt tg iter : Expr} {ifs : List Expr} {scope : Scope} {x : Str} {j : Nat} {wi : TI} {tt : TT} {te : TE} (hc : X.calm = true) (hN : X.N.Nodup) (hi : PI X tg iter wi) (ok : BlkOk X.N X.env.scope scope [(x, j)])
    (hg : ∀ (s : Shared) (H : Hp) (C : Addr) (cl : List (Str × Addr)) (fp : List Addr), PG (X.blk s H scope (compEnvC scope cl C X.env) fp) tg (gName j)) (ht : ∀ (s : Shared) (H : Hp) (C : Addr) (cl : List (Str × Addr)) (fp : List Addr), PTs (X.blk s H scope (compEnvC scope cl C X.env) fp) ifs tt)
    (he : ∀ (s : Shared) (H : Hp) (C : Addr) (cl : List (Str × Addr)) (fp : List Addr), PE (X.blk s H scope (compEnvC scope cl C X.env) fp) elt te) (hs : ∀ x, foldedSetIterable iter X.env x = pure x := by intro _; rfl) :
    PE X (.ListComp elt [⟨tg, iter, ifs, 0⟩] scope pos) (tLc wi (gName j) tt te [j]) := pe_lc (own := [(x, j)]) hc hN hi ok hg ht he hs
theorem qs_setLc {i j : Nat} {y x : Str} {py spos : Pos} {elt tg iter : Expr} {ifs : List Expr} {scope : Scope} {wi : TI} {tt : TT} {te : TE} (hc : X.calm = true) (hN : X.N.Nodup) (hy : X.N[i]? = some y) (hyl : X.env.scope.names.lookup y = some .local)
    (hsw : swapsWith (.ListComp elt [⟨tg, iter, ifs, 0⟩] scope pos) (some (.Name y py)) spos.line X.env = pure true) (hi : PI X tg iter wi) (ok : BlkOk X.N X.env.scope scope [(x, j)])
    (hg : ∀ (s : Shared) (H : Hp) (C : Addr) (cl : List (Str × Addr)) (fp : List Addr), PG (X.blk s H scope (compEnvC scope cl C X.env) fp) tg (gName j)) (ht : ∀ (s : Shared) (H : Hp) (C : Addr) (cl : List (Str × Addr)) (fp : List Addr), PTs (X.blk s H scope (compEnvC scope cl C X.env) fp) ifs tt)
    (he : ∀ (s : Shared) (H : Hp) (C : Addr) (cl : List (Str × Addr)) (fp : List Addr), PE (X.blk s H scope (compEnvC scope cl C X.env) fp) elt te) (hs : ∀ x, foldedSetIterable iter X.env x = pure x := by intro _; rfl) :
    PS X (.Assign [.Name y py] (.ListComp elt [⟨tg, iter, ifs, 0⟩] scope pos) spos) (tAsg (tLc wi (gName j) tt te [j]) (gName i)) := ps_setLc (own := [(x, j)]) hc hN hy hyl hsw hi ok hg ht he hs
end
end HG

/-! plain facts of lists, of families in lists -/
namespace HG
open PySem PyProof.Rows L2 Evl HW
variable {α β : Type}
theorem at_of {l : List α} {i : Int} {x : α} (h0 : 0 ≤ i) (h : l[i.toNat]? = some x) : atI l i = some x := by
  have hl : i.toNat < l.length := (List.getElem?_eq_some_iff.mp h).1
  unfold atI ixN
  rw [if_pos h0, if_pos (by omega)]
  exact h
theorem ix_of {n : Nat} {i : Int} (h0 : 0 ≤ i) (h : i < n) : ixN n i = some i.toNat := by
  unfold ixN
  rw [if_pos h0, if_pos h]
theorem wk_refl : ∀ Γ : List Spec, Wk Γ Γ
  | [] => trivial
  | _ :: Γ => ⟨.inr rfl, wk_refl Γ⟩
theorem take_succ_of {l : List α} {i : Nat} {x : α} (h : l[i]? = some x) : l.take (i + 1) = l.take i ++ [x] := by
  rw [List.take_add_one, h]; rfl
theorem filter_yes (l : List α) : l.filter (fun _ => true) = l := List.filter_eq_self.mpr fun _ _ => rfl
section
variable {K : PySem.W.Frag} {c : Cw} {Γ : List Spec} {ta tb te tl : TE} {τ : Ty α} {θ : Ty β}
theorem en_lc0 {l : List β} {j : Nat} (g : β → α) (hl : EL K c Γ tl θ l) (hz : l.length < 100000) (he : ∀ b ∈ l, EG c (Γ.set j (.is θ b)) te τ (g b)) : EN c Γ (tLc (iList K tl) (gName j) tYes te [j]) (oL τ) (l.map g) := by
  have := en_lc (fun _ => true) g hl hz (fun _ _ => et_yes) fun b hb _ => he b hb
  rwa [filter_yes] at this
theorem en_lcR0 {n : Int} {j : Nat} (g : Nat → α) (hn : EG c Γ ta aI n) (hz : 0 ≤ n ∧ n < 100000) (he : ∀ i : Nat, (i : Int) < n → EG c (Γ.set j (.is aI (i : Int))) te τ (g i)) : EN c Γ (tLc (iRng1 (tCons ta tNil)) (gName j) tYes te [j]) (oL τ) ((List.range n.toNat).map g) := by
  have := en_lcR (fun _ => true) g hn hz (fun _ _ => et_yes) fun i hi _ => he i hi
  rwa [filter_yes] at this
theorem en_lcR20 {a n : Int} {j : Nat} (g : Nat → α) (ha : EG c Γ ta aI a) (hn : EG c Γ tb aI n) (hz : 0 ≤ a ∧ a < 100000 ∧ 0 ≤ n ∧ n < 100000) (he : ∀ i : Nat, a + (i : Int) < n → EG c (Γ.set j (.is aI (a + (i : Int)))) te τ (g i)) :
    EN c Γ (tLc (iRng2 (tCons ta (tCons tb tNil))) (gName j) tYes te [j]) (oL τ) ((List.range (n - a).toNat).map g) := by
  have := en_lcR2 (fun _ => true) g ha hn hz (fun _ _ => et_yes) fun i hi _ => he i hi
  rwa [filter_yes] at this
/-- those that are kept -/
theorem en_lcF {l : List β} {j : Nat} (f : β → Bool) (hl : EL K c Γ tl θ l) (hz : l.length < 100000) {t : TT} (ht : ∀ b ∈ l, ET c (Γ.set j (.is θ b)) t (f b)) (hj : j < Γ.length) : EN c Γ (tLc (iList K tl) (gName j) t (tVar j) [j]) (oL θ) (l.filter f) := by
  have := en_lc f (fun b => b) hl hz ht fun b hb _ => eg_var (τ := θ) (x := b) (by rw [List.getElem?_set_self hj])
  rwa [List.map_id'] at this
end
/-- rows as a dict -/
def asKvs (rows : List Rw3) : Kvs := rows.map fun r => ((r.1, r.2.1), r.2.2)
def Uq (rows : List Rw3) : Prop := (rows.map fun r => (r.1, r.2.1)).Nodup
theorem putP_new {l : Kvs} {k : KP} {c : Int} (h : ∀ e ∈ l, e.1 ≠ k) : putP l k c = l ++ [(k, c)] := by
  unfold putP
  rw [if_neg]
  intro q
  obtain ⟨e, he, h2⟩ := List.any_eq_true.mp q
  exact h e he (of_decide_eq_true h2)
theorem asKvs_take {rows : List Rw3} (u : Uq rows) {i : Nat} {r : Rw3} (h : rows[i]? = some r) : putP (asKvs (rows.take i)) (r.1, r.2.1) r.2.2 = asKvs (rows.take (i + 1)) := by
  rw [take_succ_of h]
  obtain ⟨hi1, hi2⟩ := List.getElem?_eq_some_iff.mp h
  rw [putP_new]
  · unfold asKvs; rw [List.map_append]; rfl
  · intro e he q
    obtain ⟨s, hs, rfl⟩ := List.mem_map.mp he
    obtain ⟨j, hj⟩ := List.mem_iff_getElem?.mp hs
    have hj2 : j < i ∧ rows[j]? = some s := by
      rw [List.getElem?_take] at hj
      split at hj
      · rename_i c; exact ⟨c, hj⟩
      · cases hj
    have u' := List.pairwise_iff_getElem.mp (show (rows.map fun r => (r.1, r.2.1)).Pairwise (· ≠ ·) from u) j i (by rw [List.length_map]; omega) (by rw [List.length_map]; exact hi1) hj2.1
    rw [List.getElem_map, List.getElem_map] at u'
    have e1 : rows[j]'(by omega) = s := by
      have := hj2.2
      rw [List.getElem?_eq_getElem (by omega)] at this
      exact Option.some.inj this
    rw [e1, hi2] at u'
    exact u' q
theorem asKvs_len (rows : List Rw3) : (asKvs rows).length = rows.length := List.length_map _
theorem asKvs_nd {rows : List Rw3} (u : Uq rows) : ((asKvs rows).map (·.1)).Nodup := by
  unfold asKvs
  rw [List.map_map]
  exact u
theorem getP_as {rows : List Rw3} (u : Uq rows) {a b c : Int} : getP (asKvs rows) (a, b) = some c ↔ (a, b, c) ∈ rows := by
  constructor
  · intro h
    have := getP_mem h
    obtain ⟨r, hr, e⟩ := List.mem_map.mp this
    have e1 := congrArg (·.1.1) e
    have e2 := congrArg (·.1.2) e
    have e3 := congrArg (·.2) e
    simp at e1 e2 e3
    rw [← e1, ← e2, ← e3]; exact hr
  · intro h
    exact getP_of (asKvs_nd u) (List.mem_map.mpr ⟨_, h, rfl⟩)
theorem getP_has {rows : List Rw3} (u : Uq rows) {a b : Int} : (getP (asKvs rows) (a, b)).isSome = true ↔ hasR rows a b := by
  rw [Option.isSome_iff_exists]
  exact ⟨fun ⟨c, h⟩ => ⟨c, (getP_as u).mp h⟩, fun ⟨c, h⟩ => ⟨c, (getP_as u).mpr h⟩⟩
theorem uq_rowsOf {kvs : Kvs} (nd : (kvs.map (·.1)).Nodup) : Uq (rowsOf kvs) := by
  unfold Uq
  have := (rowsOf_lt nd)
  unfold List.Nodup
  rw [List.pairwise_map]
  refine this.imp fun {a b} h e => ?_
  have h' : a.1 < b.1 ∨ (a.1 = b.1 ∧ a.2.1 < b.2.1) := h
  have e1 : a.1 = b.1 := congrArg (·.1) e
  have e2 : a.2.1 = b.2.1 := congrArg (·.2) e
  omega
/-- the dict of the book itself, or of its rows -/
theorem getP_rows {kvs : Kvs} (nd : (kvs.map (·.1)).Nodup) (k : KP) : getP (asKvs (rowsOf kvs)) k = getP kvs k := by
  cases h : getP kvs k with
  | some c =>
    refine (getP_as (uq_rowsOf nd)).mpr ?_
    exact mem_rowsOf.mpr (getP_mem h)
  | none =>
    cases h2 : getP (asKvs (rowsOf kvs)) k with
    | none => rfl
    | some c =>
      have := (getP_as (uq_rowsOf nd) (a := k.1) (b := k.2)).mp h2
      have := getP_of nd (mem_rowsOf.mp this)
      rw [this] at h; cases h
/-! ### families -/
open Classical in
noncomputable def famB (n : Int) (rows : List Rw3) (fam : Fml) : Bool := decide (IsFam n rows fam)
theorem famB_true {n : Int} {rows : List Rw3} {fam : Fml} : famB n rows fam = true ↔ IsFam n rows fam := by
  unfold famB; exact @decide_eq_true_iff _ (Classical.propDecidable _)
theorem famB_false {n : Int} {rows : List Rw3} {fam : Fml} : famB n rows fam = false ↔ ¬ IsFam n rows fam := by
  unfold famB; exact @decide_eq_false_iff_not _ (Classical.propDecidable _)
/-- who leads where, in a list that names tellers only -/
structure Ups (fam : Fml) : Prop where
  root : fam[0]? = some none
  hear : ∀ t : Int, 1 ≤ t → t < fam.length → ∃ a, fam[t.toNat]? = some (some a) ∧ 0 ≤ a ∧ a < fam.length
theorem Ups.par {fam : Fml} (U : Ups fam) {t : Int} (h1 : 1 ≤ t) (h2 : t < fam.length) : fam[t.toNat]? = some (some (par fam t)) ∧ 0 ≤ par fam t ∧ par fam t < fam.length := by
  obtain ⟨a, e, h⟩ := U.hear t h1 h2
  have : HW.par fam t = a := by unfold HW.par; rw [if_neg (by omega), e]; rfl
  rw [this]; exact ⟨e, h⟩
theorem Ups.rng {fam : Fml} (U : Ups fam) {t : Int} (h1 : 0 ≤ t) (h2 : t < fam.length) : ∀ m, 0 ≤ up fam m t ∧ up fam m t < fam.length
  | 0 => ⟨h1, h2⟩
  | m + 1 => by
    have ih := U.rng h1 h2 m
    have e : up fam (m + 1) t = HW.par fam (up fam m t) := up_add fam m 1 t
    rw [e]
    by_cases z : up fam m t = 0
    · rw [z, par_zero]; omega
    · exact (U.par (by omega) ih.2).2
theorem up_late {fam : Fml} {t : Int} {m k : Nat} (h : m ≤ k) (e : up fam m t = 0) : up fam k t = 0 := by
  have : k = m + (k - m) := by omega
  rw [this, up_add, e, up_zero]
theorem isFam_iff {n : Int} {rows : List Rw3} {fam : Fml} (R : RowsIn n rows) (hl : (fam.length : Int) = n) (h0 : fam[0]? = some none) (hh : ∀ t : Int, 1 ≤ t → t < n → ∃ a, fam[t.toNat]? = some (some a) ∧ hasR rows a t) :
    Ups fam ∧ (IsFam n rows fam ↔ ∀ t : Int, 0 ≤ t → t < n → up fam fam.length t = 0) := by
  have e : fam.length = n.toNat := by omega
  refine ⟨⟨h0, fun t h1 h2 => ?_⟩, ⟨fun I t a b => by rw [e]; exact I.lead t a b, fun h => ⟨hl, h0, hh, fun t a b => by rw [← e]; exact h t a b⟩⟩⟩
  obtain ⟨a, q, c, hc⟩ := hh t h1 (by omega)
  have := R.a0 _ hc
  exact ⟨a, q, this.1, by omega⟩
end HG

/-! plain facts for judging: places, the cheapest, the groups joined -/
namespace HG
open PySem PyProof.Rows L2 Evl HW
variable {α β : Type}
theorem pk_new {l : List (Int × α)} {k : Int} {x : α} (h : ∀ e ∈ l, e.1 ≠ k) : putI l k x = l ++ [(k, x)] := by
  unfold putI
  rw [if_neg]
  intro q
  obtain ⟨e, he, h2⟩ := List.any_eq_true.mp q
  exact h e he (of_decide_eq_true h2)
theorem lk_of {l : List (Int × α)} (nd : (l.map (·.1)).Nodup) {k : Int} {x : α} (h : (k, x) ∈ l) : lk l k = some x := by
  induction l with
  | nil => cases h
  | cons e r ih =>
    have nd' := List.nodup_cons.mp nd
    unfold lk
    cases h with
    | head => rw [List.find?_cons_of_pos (by simp)]; rfl
    | tail _ h =>
      have ne : ¬ e.1 = k := fun q => nd'.1 (List.mem_map.mpr ⟨_, h, q.symm⟩)
      rw [List.find?_cons_of_neg (by simpa using ne)]
      exact ih nd'.2 h
section
variable {n : Int} {gs : List (List Int)} {rows : List Rw3}
/-- the places of the tellers of the first m groups -/
def plD (gs : List (List Int)) (m : Nat) : List (Int × Int) := (List.range m).flatMap fun p => (gp gs p).map fun t => (t, (p : Int))
theorem plD_succ (gs : List (List Int)) (m : Nat) : plD gs (m + 1) = plD gs m ++ (gp gs m).map fun t => (t, (m : Int)) := by
  unfold plD
  rw [List.range_succ, List.flatMap_append]
  simp
theorem mem_plD {m : Nat} {e : Int × Int} : e ∈ plD gs m ↔ ∃ p, p < m ∧ e.1 ∈ gp gs p ∧ e.2 = (p : Int) := by
  unfold plD
  rw [List.mem_flatMap]
  constructor
  · rintro ⟨p, hp, h⟩
    obtain ⟨t, ht, rfl⟩ := List.mem_map.mp h
    exact ⟨p, List.mem_range.mp hp, ht, rfl⟩
  · rintro ⟨p, hp, h1, h2⟩
    exact ⟨p, List.mem_range.mpr hp, List.mem_map.mpr ⟨e.1, h1, by rw [← h2]⟩⟩
theorem lt_nodup {l : List Int} (h : l.Pairwise (· < ·)) : l.Nodup := h.imp fun {a b} q e => by omega
theorem plD_nd (P : Part n gs) : ∀ m, m ≤ gs.length → ((plD gs m).map (·.1)).Nodup
  | 0, _ => List.nodup_nil
  | m + 1, h => by
    rw [plD_succ, List.map_append, List.map_map, List.nodup_append]
    refine ⟨plD_nd P m (by omega), ?_, ?_⟩
    · have := lt_nodup (P.srt _ (gp_mem (show m < gs.length by omega)))
      have e : (gp gs m).map ((fun x : Int × Int => x.1) ∘ fun t => (t, (m : Int))) = gp gs m := by
        conv => rhs; rw [← List.map_id (gp gs m)]
        rfl
      rw [e]; exact this
    · intro a ha b hb e
      obtain ⟨x, hx, rfl⟩ := List.mem_map.mp ha
      obtain ⟨t, ht, rfl⟩ := List.mem_map.mp hb
      obtain ⟨p, hp, h1, _⟩ := mem_plD.mp hx
      have e' : x.1 = t := e
      rw [e'] at h1
      have := P.uniq h1 ht
      omega
def upTo (n : Int) : List Int := (List.range n.toNat).map fun i : Nat => (i : Int)
theorem mem_upTo {n t : Int} : t ∈ upTo n ↔ 0 ≤ t ∧ t < n := by
  unfold upTo
  rw [List.mem_map]
  constructor
  · rintro ⟨i, hi, rfl⟩
    have := List.mem_range.mp hi
    omega
  · intro h
    exact ⟨t.toNat, List.mem_range.mpr (by omega), by omega⟩
theorem upTo_len (n : Int) : (upTo n).length = n.toNat := by simp [upTo]
theorem plD_len (P : Part n gs) {m : Nat} (h : m ≤ gs.length) : (plD gs m).length ≤ n.toNat := by
  have sub : (plD gs m).map (·.1) ⊆ upTo n := fun t ht => by
    obtain ⟨x, hx, rfl⟩ := List.mem_map.mp ht
    obtain ⟨p, hp, h1, _⟩ := mem_plD.mp hx
    exact mem_upTo.mpr (P.rg h1)
  have := (plD_nd P m h).length_le_of_subset sub
  rw [List.length_map, upTo_len] at this
  exact this
theorem Part.glen (P : Part n gs) {g : List Int} (h : g ∈ gs) : g.length ≤ n.toNat := by
  have := (lt_nodup (P.srt g h)).length_le_of_subset (l₂ := upTo n) fun t ht => mem_upTo.mpr (P.rng g h t ht)
  rwa [upTo_len] at this
theorem plD_ge (P : Part n gs) : ∀ m, m ≤ gs.length → m ≤ (plD gs m).length
  | 0, _ => Nat.zero_le _
  | m + 1, h => by
    have ih := plD_ge P m (by omega)
    rw [plD_succ, List.length_append, List.length_map]
    have : 0 < (gp gs m).length := List.length_pos_iff.mpr (P.ne _ (gp_mem (show m < gs.length by omega)))
    omega
theorem Part.len (P : Part n gs) : gs.length ≤ n.toNat := Nat.le_trans (plD_ge P gs.length (Nat.le_refl _)) (plD_len P (Nat.le_refl _))
theorem Part.lk (P : Part n gs) {t : Int} (h : 0 ≤ t ∧ t < n) : HG.lk (plD gs gs.length) t = some ((pl gs t : Nat) : Int) :=
  lk_of (plD_nd P _ (Nat.le_refl _)) (mem_plD.mpr ⟨pl gs t, P.pl_lt h.1 h.2, P.pl_in h.1 h.2, rfl⟩)
/-- a new teller's place -/
theorem plD_put (P : Part n gs) {m j : Nat} (hm : m < gs.length) {t : Int} (ht : (gp gs m)[j]? = some t) :
    putI (plD gs m ++ ((gp gs m).take j).map fun t => (t, (m : Int))) t (m : Int) = plD gs m ++ ((gp gs m).take (j + 1)).map fun t => (t, (m : Int)) := by
  have hj := (List.getElem?_eq_some_iff.mp ht)
  rw [pk_new, take_succ_of ht, List.map_append, List.append_assoc]
  · rfl
  · intro e he q
    rcases List.mem_append.mp he with he | he
    · obtain ⟨p, hp, h1, _⟩ := mem_plD.mp he
      rw [q] at h1
      have := P.uniq h1 (List.mem_of_getElem? ht)
      omega
    · obtain ⟨s, hs, rfl⟩ := List.mem_map.mp he
      obtain ⟨i, hi⟩ := List.mem_iff_getElem?.mp hs
      have hi2 : i < j ∧ (gp gs m)[i]? = some s := by
        rw [List.getElem?_take] at hi
        split at hi
        · rename_i c; exact ⟨c, hi⟩
        · cases hi
      obtain ⟨hjl, hje⟩ := hj
      have := List.pairwise_iff_getElem.mp (P.srt _ (gp_mem hm)) i j (by omega) hjl hi2.1
      have e1 : (gp gs m)[i]'(by omega) = s := by
        have := hi2.2
        rw [List.getElem?_eq_getElem (by omega)] at this
        exact Option.some.inj this
      rw [e1, hje] at this
      have q' : s = t := q
      omega
/-! ### the cheapest -/
def chS (gs : List (List Int)) (p : Nat) (b : Option Rw3) (r : Rw3) : Option Rw3 :=
  if pl gs r.2.1 = p ∧ pl gs r.1 ≠ p then (match b with
    | none => some r
    | some q => if r.2.2 < q.2.2 then some r else some q) else b
def cheap (gs : List (List Int)) (rows : List Rw3) (p : Nat) : Option Rw3 := rows.foldl (chS gs p) none
theorem cheap_succ {i : Nat} {r : Rw3} (p : Nat) (h : rows[i]? = some r) : cheap gs (rows.take (i + 1)) p = chS gs p (cheap gs (rows.take i) p) r := by
  unfold cheap
  rw [take_succ_of h, List.foldl_append]; rfl
theorem en_pl (P : Part n gs) {a b : Int} (ha : 0 ≤ a ∧ a < n) (hb : 0 ≤ b ∧ b < n) (p : Nat) : ent a b (gp gs p) = true ↔ pl gs b = p ∧ pl gs a ≠ p := by
  rw [ent_iff, P.mem_iff hb.1 hb.2, P.mem_iff ha.1 ha.2]
theorem cheap_is (P : Part n gs) (p : Nat) : ∀ (rows : List Rw3), (∀ r ∈ rows, (0 ≤ r.1 ∧ r.1 < n) ∧ (0 ≤ r.2.1 ∧ r.2.1 < n)) → match cheap gs rows p with
    | none => ∀ r ∈ rows, ent r.1 r.2.1 (gp gs p) = false
    | some q => Pick rows (gp gs p) q := by
  have key : ∀ (rows done : List Rw3) (b : Option Rw3), (∀ r ∈ rows, (0 ≤ r.1 ∧ r.1 < n) ∧ (0 ≤ r.2.1 ∧ r.2.1 < n)) → (match b with
      | none => ∀ r ∈ done, ent r.1 r.2.1 (gp gs p) = false
      | some q => Pick done (gp gs p) q) → match rows.foldl (chS gs p) b with
      | none => ∀ r ∈ done ++ rows, ent r.1 r.2.1 (gp gs p) = false
      | some q => Pick (done ++ rows) (gp gs p) q := by
    intro rows
    induction rows with
    | nil => intro done b _ h; rw [List.append_nil]; exact h
    | cons r rows ih =>
      intro done b hr h
      have e : done ++ r :: rows = (done ++ [r]) ++ rows := by simp
      rw [List.foldl_cons, e]
      refine ih (done ++ [r]) _ (fun s hs => hr s (List.mem_cons_of_mem _ hs)) ?_
      have rg := hr r (List.mem_cons_self ..)
      have en := en_pl P rg.1 rg.2 p
      unfold chS
      by_cases c : pl gs r.2.1 = p ∧ pl gs r.1 ≠ p
      · rw [if_pos c]
        have er := en.mpr c
        cases b with
        | none =>
          show Pick (done ++ [r]) (gp gs p) r
          refine ⟨by simp, er, fun s hs es => ?_⟩
          rcases List.mem_append.mp hs with hs | hs
          · rw [h s hs] at es; cases es
          · rw [List.mem_singleton.mp hs]; exact Int.le_refl _
        | some q =>
          have hq : Pick done (gp gs p) q := h
          by_cases l : r.2.2 < q.2.2
          · simp only [if_pos l]
            refine ⟨by simp, er, fun s hs es => ?_⟩
            rcases List.mem_append.mp hs with hs | hs
            · have := hq.low s hs es; omega
            · rw [List.mem_singleton.mp hs]; exact Int.le_refl _
          · simp only [if_neg l]
            refine ⟨List.mem_append_left _ hq.mem, hq.en, fun s hs es => ?_⟩
            rcases List.mem_append.mp hs with hs | hs
            · exact hq.low s hs es
            · rw [List.mem_singleton.mp hs]; omega
      · rw [if_neg c]
        have er : ent r.1 r.2.1 (gp gs p) = false := by
          cases z : ent r.1 r.2.1 (gp gs p) with
          | false => rfl
          | true => exact absurd (en.mp z) c
        cases b with
        | none =>
          intro s hs
          rcases List.mem_append.mp hs with hs | hs
          · exact h s hs
          · rw [List.mem_singleton.mp hs]; exact er
        | some q =>
          have hq : Pick done (gp gs p) q := h
          refine ⟨List.mem_append_left _ hq.mem, hq.en, fun s hs es => ?_⟩
          rcases List.mem_append.mp hs with hs | hs
          · exact hq.low s hs es
          · rw [List.mem_singleton.mp hs, er] at es; cases es
  intro rows hr
  have := key rows [] none hr (fun r h => by cases h)
  simpa [cheap] using this
/-! ### the rows between groups -/
def pkD (pk : Nat → Rw3) (m : Nat) : List (Int × Rw3) := (List.range' 1 m).map fun (p : Nat) => ((p : Int), pk p)
theorem pkD_succ (pk : Nat → Rw3) (m : Nat) : pkD pk (m + 1) = pkD pk m ++ [(((1 + m : Nat) : Int), pk (1 + m))] := by
  unfold pkD
  rw [List.range'_1_concat, List.map_append]; rfl
theorem pkD_nd (pk : Nat → Rw3) (m : Nat) : ((pkD pk m).map (·.1)).Nodup := by
  unfold pkD
  rw [List.map_map]
  unfold List.Nodup
  rw [List.pairwise_map]
  refine (List.pairwise_lt_range' (s := 1) (n := m)).imp fun {a b} h e => ?_
  have e' : (a : Int) = (b : Int) := e
  omega
theorem pkD_len (pk : Nat → Rw3) (m : Nat) : (pkD pk m).length = m := by simp [pkD]
theorem pkD_lk (pk : Nat → Rw3) {m p : Nat} (h1 : 1 ≤ p) (h2 : p < 1 + m) : HG.lk (pkD pk m) (p : Int) = some (pk p) :=
  lk_of (pkD_nd pk m) (List.mem_map.mpr ⟨p, List.mem_range'_1.mpr ⟨h1, h2⟩, rfl⟩)
theorem les_succ {pk : Nat → Rw3} {i : Nat} {r : Rw3} (h : rows[i]? = some r) : les gs pk (rows.take (i + 1)) = les gs pk (rows.take i) ++ (if pl gs r.1 ≠ pl gs r.2.1 then [(r.1, r.2.1, r.2.2 - (pk (pl gs r.2.1)).2.2)] else []) := by
  unfold les
  rw [take_succ_of h, List.filter_append, List.map_append]
  congr 1
  by_cases c : pl gs r.1 ≠ pl gs r.2.1
  · rw [if_pos c, List.filter_cons_of_pos (by simpa using c)]; rfl
  · rw [if_neg c, List.filter_cons_of_neg (by simpa using c)]; rfl
theorem les_len (pk : Nat → Rw3) (rows : List Rw3) : (les gs pk rows).length ≤ rows.length := by
  unfold les
  rw [List.length_map]
  exact List.length_filter_le _ _
/-! ### groups made one -/
def ringI (ring : List Nat) : List Int := ring.map fun (p : Nat) => (p : Int)
theorem mem_ringI {ring : List Nat} {p : Nat} : (p : Int) ∈ ringI ring ↔ p ∈ ring := by
  unfold ringI
  rw [List.mem_map]
  constructor
  · rintro ⟨q, hq, e⟩
    have : q = p := by omega
    rw [← this]; exact hq
  · intro h; exact ⟨p, h, rfl⟩
def wholeL (gs : List (List Int)) (ring : List Nat) : List Int := (ring.flatMap (gp gs)).mergeSort fun a b => decide (a ≤ b)
theorem wholeL_perm (gs : List (List Int)) (ring : List Nat) : (wholeL gs ring).Perm (ring.flatMap (gp gs)) := List.mergeSort_perm _ _
theorem wholeL_srt (gs : List (List Int)) (ring : List Nat) : (wholeL gs ring).Pairwise (· ≤ ·) := by
  have := List.pairwise_mergeSort (le := fun a b : Int => decide (a ≤ b)) (fun a b c h1 h2 => by simp at *; omega) (fun a b => by simp; omega) (ring.flatMap (gp gs))
  exact this.imp fun {a b} h => of_decide_eq_true h
theorem flat_nd (P : Part n gs) : ∀ {ring : List Nat}, ring.Nodup → (∀ p ∈ ring, p < gs.length) → (ring.flatMap (gp gs)).Nodup
  | [], _, _ => List.nodup_nil
  | p :: ring, h, hl => by
    have h' := List.nodup_cons.mp h
    rw [List.flatMap_cons, List.nodup_append]
    refine ⟨lt_nodup (P.srt _ (gp_mem (hl p (List.mem_cons_self ..)))), flat_nd P h'.2 fun q hq => hl q (List.mem_cons_of_mem _ hq), fun a ha b hb e => ?_⟩
    obtain ⟨q, hq, hb'⟩ := List.mem_flatMap.mp hb
    rw [← e] at hb'
    have := P.uniq ha hb'
    rw [this] at h'
    exact h'.1 hq
theorem whole_is (P : Part n gs) {ring : List Nat} (nd : ring.Nodup) (hl : ∀ p ∈ ring, p < gs.length) : Whole gs ring (wholeL gs ring) where
  mem := fun t => by rw [(wholeL_perm gs ring).mem_iff, List.mem_flatMap]
  srt := by
    have nd' : (wholeL gs ring).Nodup := (wholeL_perm gs ring).symm.nodup (flat_nd P nd hl)
    refine ((wholeL_srt gs ring).and nd').imp fun {a b} h => ?_
    have := h.1
    have := h.2
    omega
theorem flat_len (P : Part n gs) : ∀ (ring : List Nat), (∀ p ∈ ring, p < gs.length) → (ring.flatMap (gp gs)).length ≤ ring.length * n.toNat
  | [], _ => by simp
  | p :: ring, h => by
    rw [List.flatMap_cons, List.length_append, List.length_cons, Nat.succ_mul]
    have := flat_len P ring fun q hq => h q (List.mem_cons_of_mem _ hq)
    have := Part.glen P (gp_mem (h p (List.mem_cons_self ..)))
    omega
end
end HG

/-! a thing that is handed in to be changed; a dict that is locked -/
namespace HG
open PySem PyProof.Rows L2 Evl HW
variable {α β : Type}
def del (H : Hp) (q : Addr) : Hp := fun a => if a = q then none else H a
theorem del_at {H : Hp} {q : Addr} : del H q q = none := if_pos rfl
theorem del_ne {H : Hp} {q a : Addr} (h : a ≠ q) : del H q a = H a := if_neg h
theorem del_ex {H : Hp} {q : Addr} : Ex (del H q) H := fun a o h => by
  by_cases e : a = q
  · rw [e, del_at] at h; cases h
  · rw [del_ne e] at h; exact h
/-- around a def that changes what stands at q, which its j-th slot holds -/
def cwO (A H : Hp) (q : Addr) (j : Nat) : Cw := ⟨A, del H q, fun a => ∃ o, H a = some o, fun i => i = j⟩
theorem enterO {A H : Hp} {N : List Str} {Ss : List Spec} {vs : List V} {j : Nat} {q : Addr} {o : HO} {v : V} {κ : Ob α} {x : α} (e : Ex A H) (hA : A q = none) (hq : H q = some o) (hv : vs[j]? = some v) (hs : Ss[j]? = some (.own κ x)) (r : κ.S x A v (one q o))
    (h : ∀ i s, Ss[i]? = some s → i ≠ j → ∃ v, vs[i]? = some v ∧ Ok A (del H q) none0 s (some (some v))) (hl : Ss.length = vs.length) (hn : Ss.length ≤ N.length) : Hd (cwO A H q j) (entS N Ss) (L2.start N vs) H := by
  refine ⟨A, updM (fun _ => none0) j (one q o), ?_⟩
  have cell : ∀ i a u, updM (fun _ => none0) j (one q o) i a = some u → i = j ∧ a = q ∧ u = o := fun i a u z => by
    by_cases c : i = j
    · rw [c, updM_same] at z
      obtain ⟨z1, z2⟩ := one_some z
      exact ⟨c, z1, z2⟩
    · rw [updM_ne c] at z; cases z
  exact {
    len := by
      rw [entS_eq N Ss hn]
      unfold L2.start
      simp [hl]
    fx := e
    fr := del_ex
    af := Ex.refl _
    fn := fun a u z n => by rw [show (cwO A H q j).A a = A a from rfl, z] at n; cases n
    dm := fun a k => k
    mx := fun i a u z => by obtain ⟨_, rfl, rfl⟩ := cell i a u z; exact hq
    mf := fun i a u z => by obtain ⟨_, rfl, rfl⟩ := cell i a u z; exact hA
    mr := fun i a u z => by obtain ⟨_, rfl, rfl⟩ := cell i a u z; exact del_at
    mj := fun i a u z _ => (cell i a u z).1
    mm := fun i k a u n z => none_of fun u' z' => n ((cell i a u z).1.trans (cell k a u' z').1.symm)
    ok := fun i s hs' => by
      rw [entS_eq N Ss hn] at hs'
      by_cases c : i < Ss.length
      · rw [List.getElem?_append_left c] at hs'
        unfold L2.start
        rw [List.getElem?_append_left (by rw [List.length_map, ← hl]; exact c), List.getElem?_map]
        by_cases ij : i = j
        · subst ij
          rw [hs] at hs'
          cases hs'
          rw [hv, updM_same]
          exact ⟨v, rfl, r⟩
        · obtain ⟨v', h1, h2⟩ := h i s hs' ij
          rw [h1, updM_ne ij]
          exact h2
      · rw [List.getElem?_append_right (Nat.le_of_not_lt c)] at hs'
        have := List.mem_of_getElem? hs'
        rw [(List.mem_replicate.mp this).2]
        trivial }
section
variable {K : PySem.W.Frag} {C : Addr} {c : Cw} {Γ Δ : List Spec} {ta tb te tl td : TE} {t u : TT} {τ : Ty α} {θ : Ty β} {x : α} {y : β} {D : Ends} {tu tw tz ts : TS}
/-- handed back, the changed thing told -/
structure RetO (c : Cw) (τ : Ty α) (x : α) (κ : Ob β) (y : β) (w v : V) (H' : Hp) : Prop where
  ex : ∃ G M, Ex c.A G ∧ Ex G H' ∧ (∀ a o, G a = some o → c.A a = none → ¬ c.N a) ∧ τ.R x G v ∧ Ex M H' ∧ (∀ a o, M a = some o → G a = none) ∧ κ.S y G w M
  fr : Ex c.Fr H'
  dm : ∀ a, c.N a → ∃ o, H' a = some o
theorem RetO.sub {c d : Cw} (h : c.le d) {τ : Ty α} {x : α} {κ : Ob β} {y : β} {w v : V} {H' : Hp} (r : RetO d τ x κ y w v H') : RetO c τ x κ y w v H' where
  ex := by
    obtain ⟨G, M, g1, g2, g3, g4, g5, g6, g7⟩ := r.ex
    refine ⟨G, M, h.a.trans g1, g2, fun a o q n => ?_, g4, g5, g6, g7⟩
    cases z : d.A a with
    | none => have := g3 a o q z; rw [h.nn] at this; exact this
    | some u => exact h.n a u z n
  fr := h.fr ▸ r.fr
  dm := h.nn ▸ r.dm
theorem t_retJ {κ : Ob β} {j : Nat} (h : EG c Γ te τ x) (hj : Γ[j]? = some (.own κ y)) (q : ∀ w v H', RetO c τ x κ y w v H' → D.rt v H') : Tr c Γ (tRet te) D := fun σ H ⟨F, Ms, w⟩ => h σ F Ms H w _ fun v F' H' s r => by
  have w' := w.step s
  obtain ⟨v', h1, h2⟩ := w'.ok j _ hj
  exact q v' v H' ⟨⟨F', Ms j, w'.af, w'.fx, w'.fn, r, w'.mx j, w'.mf j, h2⟩, w'.fr, w'.dm⟩
/-- the place of a thing of one's own gets a name -/
theorem t_at {κ : Ob α} {i : Nat} (h : Γ[i]? = some (.own κ x)) (k : ∀ v0, Tr c (Γ.set i (.own (κ.at v0) x)) ts D) : Tr c Γ ts D := fun σ H ⟨F, Ms, w⟩ => by
  obtain ⟨v, h1, h2⟩ := w.ok i _ h
  refine k v σ H ⟨F, Ms, ?_⟩
  exact { w with
    len := by rw [List.length_set]; exact w.len
    ok := fun j s hs => by
      by_cases e : i = j
      · subst e
        rw [List.getElem?_set, if_pos rfl] at hs
        split at hs
        · rw [← Option.some.inj hs]; exact ⟨v, h1, rfl, h2⟩
        · cases hs
      · rw [List.getElem?_set_ne e] at hs; exact w.ok j s hs }
theorem t_unat {κ : Ob α} {i : Nat} {v0 : V} (h : Γ[i]? = some (.own (κ.at v0) x)) (k : Tr c (Γ.set i (.own κ x)) ts D) : Tr c Γ ts D := fun σ H ⟨F, Ms, w⟩ => by
  obtain ⟨v, h1, h2⟩ := w.ok i _ h
  refine k σ H ⟨F, Ms, ?_⟩
  exact { w with
    len := by rw [List.length_set]; exact w.len
    ok := fun j s hs => by
      by_cases e : i = j
      · subst e
        rw [List.getElem?_set, if_pos rfl] at hs
        split at hs
        · rw [← Option.some.inj hs]; exact ⟨v, h1, h2.2⟩
        · cases hs
      · rw [List.getElem?_set_ne e] at hs; exact w.ok j s hs }
theorem em_appA {l : List α} {i : Nat} {v0 : V} (h : Γ[i]? = some (.own ((oL τ).at v0) l)) (he : EG c Γ te τ x) (hz : l.length < 100000) : EM c Γ (tBM K "list" rAppend (tVar i) (tCons te tNil)) (Γ.set i (.own ((oL τ).at v0) (l ++ [x]))) aN () := fun σ F Ms H w Q q => by
  obtain ⟨v, h1, e0, p, us, e, m, r⟩ := w.ok i _ h
  subst e
  refine ⟨_, h1, .inl ⟨rfl, us, .inl (.inl (w.mx i _ _ (by rw [m]; exact one_at)))⟩, he σ F Ms H w _ fun v F1 H1 s1 r1 => ⟨p, us, v, rfl, rfl, s1.h _ _ (w.mx i _ _ (by rw [m]; exact one_at)), sz_lt (by rw [pr_len r]; exact hz), ?_⟩⟩
  exact q _ _ _ _ ((w.step s1).mut1 (κ' := (oL τ).at v0) (y := l ++ [x]) h m h1 ⟨e0, p, _, rfl, rfl, pr_snoc (r.up s1.f) r1⟩) rfl
/-- a call that changes what a slot holds, of which some x comes -/
def EMP (c : Cw) (Γ : List Spec) (te : TE) (τ : Ty α) (P : α → List Spec → Prop) : Prop := ∀ σ F Ms H, Wd c Γ σ F Ms H → ∀ Q : VK, (∀ x Δ v F' Ms' H', P x Δ → Wd c Δ σ F' Ms' H' → τ.R x F' v → Q v H') → te σ H Q
theorem t_asgMP {P : α → List Spec → Prop} {i : Nat} (h : EMP c Γ te τ P) (k : ∀ x Δ, P x Δ → Tr c (Δ.set i (.is τ x)) tz D) : Tr c Γ (tSeq (tAsg te (gName i)) tz) D := fun σ H ⟨F, Ms, w⟩ => h σ F Ms H w _ fun x Δ v F' Ms' H' p w' r => k x Δ p _ _ ⟨F', Ms', w'.set i r⟩
/-! ### a dict under lock -/
def oFz (τ : Ty α) (d : Addr) (od : Obj) (us : List (Key × V)) : Ob (List (Int × α)) where
  S := fun l F v M => v = .ref d ∧ M = one d (.frz od (.dK us)) ∧ Ents τ F us l
  up := fun ⟨h1, h2, h3⟩ e => ⟨h1, h2, h3.up e⟩
  ty := ⟨fun _ _ v => v = .ref d, fun h _ => h⟩
  fz := fun h _ _ => h.1
theorem edk_fz {i : Nat} {l : List (Int × α)} {d : Addr} {od : Obj} {us : List (Key × V)} (h : Γ[i]? = some (.own (oFz τ d od us) l)) : EDK c Γ (tVar i) τ l := fun σ F Ms H w Q q => by
  obtain ⟨v, h1, e, m, r⟩ := w.ok i _ h
  subst e
  exact ⟨_, h1, q d us F H (Stp.refl w.fx) (.inr ⟨od, w.mx i _ _ (by rw [m]; exact one_at)⟩) r⟩
/-- the ends of what stands under lock -/
def lockD (D : Ends) (d : Addr) (od : Obj) (us : List (Key × V)) : Ends :=
  ⟨fun σ' H' => H' d = some (.frz od (.dK us)) ∧ D.nx σ' (upd H' d (.dK us)), fun v H' => H' d = some (.frz od (.dK us)) ∧ D.rt v (upd H' d (.dK us)), fun σ' H' => H' d = some (.frz od (.dK us)) ∧ D.bk σ' (upd H' d (.dK us)), fun σ' H' => H' d = some (.frz od (.dK us)) ∧ D.ct σ' (upd H' d (.dK us))⟩
/-- a dict of one's own whose cell is known -/
def oDU (τ : Ty α) (d : Addr) (us : List (Key × V)) : Ob (List (Int × α)) where
  S := fun l F v M => v = .ref d ∧ M = one d (.dK us) ∧ Ents τ F us l
  up := fun ⟨h1, h2, h3⟩ e => ⟨h1, h2, h3.up e⟩
  ty := aDK τ
  fz := fun ⟨h1, h2, h3⟩ e m => ⟨d, us, h1, m _ _ (by rw [h2]; exact one_at), h3.up e⟩
theorem Wd.lock {σ : L2.St} {F H : Hp} {Ms : Nat → Hp} (w : Wd c Γ σ F Ms H) {i : Nat} {d : Addr} {us : List (Key × V)} {l : List (Int × α)} (h : Γ[i]? = some (.own (oDU τ d us) l)) :
    H d = some (.dK us) ∧ ∀ od, ∃ Ms', Wd c (Γ.set i (.own (oFz τ d od us) l)) σ F Ms' (upd H d (.frz od (.dK us))) := by
  obtain ⟨v, h1, e, m, r⟩ := w.ok i _ h
  subst e
  exact ⟨w.mx i _ _ (by rw [m]; exact one_at), fun od => ⟨_, w.mut1 (κ' := oFz τ d od us) (y := l) h m h1 ⟨rfl, rfl, r⟩⟩⟩
theorem Wd.unlock {σ : L2.St} {F H : Hp} {Ms : Nat → Hp} (w : Wd c Γ σ F Ms H) {i : Nat} {d : Addr} {od : Obj} {us : List (Key × V)} {l : List (Int × α)} (h : Γ[i]? = some (.own (oFz τ d od us) l)) :
    H d = some (.frz od (.dK us)) ∧ ∃ Ms', Wd c (Γ.set i (.own (oDU τ d us) l)) σ F Ms' (upd H d (.dK us)) := by
  obtain ⟨v, h1, e, m, r⟩ := w.ok i _ h
  subst e
  exact ⟨w.mx i _ _ (by rw [m]; exact one_at), _, w.mut1 (κ' := oDU τ d us) (y := l) h m h1 ⟨rfl, rfl, r⟩⟩
theorem t_lock {i : Nat} {d : Addr} {us : List (Key × V)} {l : List (Int × α)} (h : Γ[i]? = some (.own (oDU τ d us) l)) (hb : ∀ od, Tr c (Γ.set i (.own (oFz τ d od us) l)) ts (lockD { D with nx := tz D } d od us)) : Tr c Γ (tSeq (tLock ts) tz) D := fun σ H ⟨F, Ms, w⟩ => by
  obtain ⟨e, k⟩ := w.lock h
  refine ⟨d, .dK us, e, trivial, fun od => ?_⟩
  obtain ⟨Ms', w'⟩ := k od
  exact hb od σ _ ⟨F, Ms', w'⟩
/-- through the end of what stands under lock -/
theorem t_unlock {i : Nat} {d : Addr} {od : Obj} {us : List (Key × V)} {l : List (Int × α)} (h : Γ[i]? = some (.own (oFz τ d od us) l)) (k : Tr c (Γ.set i (.own (oDU τ d us) l)) tz D) : Tr c Γ tNext (lockD { D with nx := tz D } d od us) := fun σ H ⟨F, Ms, w⟩ => by
  obtain ⟨e, Ms', w'⟩ := w.unlock h
  exact ⟨e, k σ _ ⟨F, Ms', w'⟩⟩
/-- a return under lock -/
theorem t_retL {i : Nat} {d : Addr} {od : Obj} {us : List (Key × V)} {l : List (Int × β)} {rt : VK} {nx bk ct : L2.St → Hp → Prop} (hi : Γ[i]? = some (.own (oFz θ d od us) l)) (h : EG c Γ te τ x) (q : ∀ v H', RetIs c τ x v H' → H' d = some (.dK us) → rt v H') :
    Tr c Γ (tRet te) ⟨nx, fun v H' => H' d = some (.frz od (.dK us)) ∧ rt v (upd H' d (.dK us)), bk, ct⟩ := fun σ H ⟨F, Ms, w⟩ =>
  h σ F Ms H w _ fun v F' H' s r => by
    obtain ⟨e1, Ms', w'⟩ := (w.step s).unlock hi
    exact ⟨e1, q v _ (w'.retIs r) upd_same⟩
theorem t_retU {i : Nat} {d : Addr} {us : List (Key × V)} {l : List (Int × β)} (hi : Γ[i]? = some (.own (oDU θ d us) l)) (h : EG c Γ te τ x) (q : ∀ v H', RetIs c τ x v H' → H' d = some (.dK us) → D.rt v H') : Tr c Γ (tRet te) D := fun σ H ⟨F, Ms, w⟩ =>
  h σ F Ms H w _ fun v F' H' s r => by
    have w' := w.step s
    obtain ⟨v', h1, e, m, r'⟩ := w'.ok i _ hi
    exact q v _ (w'.retIs r) (w'.mx i _ _ (by rw [m]; exact one_at))
theorem ents_get {F : Hp} : ∀ {us : List (Key × V)} {l : List (Int × α)} {i : Nat} {k : Key} {v : V}, Ents τ F us l → us[i]? = some (k, v) → ∃ e, l[i]? = some e ∧ k = .inl e.1 ∧ τ.R e.2 F v
  | _, _, i, _, _, .nil, h => by simp at h
  | _, _, 0, _, _, .cons r t, h => by simp at h; subst h; exact ⟨_, rfl, r.1, r.2⟩
  | _, _, i + 1, _, _, .cons r t, h => by
    obtain ⟨e, h1, h2⟩ := ents_get (i := i) t (by simpa using h)
    exact ⟨e, by simpa using h1, h2⟩
/-- for k in d, d under lock -/
theorem t_forK {i j : Nat} {d : Addr} {od : Obj} {us : List (Key × V)} {l : List (Int × α)} (Γi : Nat → List Spec) (I : Nat → Prop) (h : Γ[i]? = some (.own (oFz τ d od us) l)) (hi : ∀ n, (Γi n)[i]? = some (.own (oFz τ d od us) l)) (h0 : Wk Γ (Γi 0)) (i0 : I 0)
    (hs : ∀ n e, l[n]? = some e → I n → Tr c ((Γi n).set j (.is aI e.1)) tb' { D with nx := At c (I (n + 1)) (Γi (n + 1)), ct := At c (I (n + 1)) (Γi (n + 1)), bk := tz D }) (hd : I l.length → Tr c (Γi l.length) tz D) :
    Tr c Γ (tSeq (tFor (iKeys (tVar i)) (gName j) tb') tz) D := fun σ H ⟨F, Ms, w⟩ => by
  obtain ⟨v, h1, e, m, r⟩ := w.ok i _ h
  subst e
  have hl : us.length = l.length := pr_len' r
  have hH : H d = some (.frz od (.dK us)) := w.mx i _ _ (by rw [m]; exact one_at)
  refine ⟨_, h1, d, od, rfl, .inl ⟨us, hH, ?_⟩⟩
  have hG : ∀ n σ' H', At c (I n) (Γi n) σ' H' → H' d = some (.frz od (.dK us)) := fun n σ' H' ⟨_, F', Ms', w'⟩ => by
    obtain ⟨v', _, _, m', _⟩ := w'.ok i _ (hi n)
    exact w'.mx i _ _ (by rw [m']; exact one_at)
  refine for_it (n := us.length) (G := fun H => H d = some (.frz od (.dK us))) walk_keys (fun n σ' H' => At c (I n) (Γi n) σ' H') ⟨i0, F, Ms, w.weak h0⟩ (fun n σ' H' _ p => hG n σ' H' p) ?_ ?_
  · rintro n x σ' H' H'' hn ⟨ii, F', Ms', w'⟩ ⟨rfl, k, v, hk, rfl⟩
    obtain ⟨v', _, _, m', r'⟩ := w'.ok i _ (hi n)
    obtain ⟨e, he, rfl, _⟩ := ents_get r' hk
    exact hs n e he ii _ _ ⟨F', Ms', w'.set (τ := aI) (x := e.1) j rfl⟩
  · rintro σ' H' ⟨ii, F', Ms', w'⟩
    rw [hl] at ii w'
    exact hd ii σ' H' ⟨F', Ms', w'⟩
/-- [d[k] for k in d] -/
theorem en_vals {i j : Nat} {l : List (Int × α)} (h : Γ[i]? = some (.own (oDK τ) l)) (nd : (l.map (·.1)).Nodup) (hz : l.length < 100000) (hij : i ≠ j) (hj : j < Γ.length) : EN c Γ (tLockE (tLc (iKeys (tVar i)) (gName j) tYes (tDGet (tVar i) (tVar j)) [j])) (oL τ) (l.map (·.2)) := fun σ F Ms H w Q q => by
  obtain ⟨v, h1, d, us, e, m, r⟩ := w.ok i _ h
  subst e
  have hH : H d = some (.dK us) := w.mx i _ _ (by rw [m]; exact one_at)
  have fd : F d = none := w.mf i d _ (by rw [m]; exact one_at)
  have hl : us.length = l.length := pr_len' r
  refine ⟨d, .dK us, hH, trivial, fun od => ⟨_, h1, d, od, rfl, .inl ⟨us, upd_same, fun D hD => ?_⟩⟩⟩
  have nDd : D ≠ d := fun e => by rw [e, upd_same] at hD; cases hD
  have hD0 : H D = none := by rw [upd_ne nDd] at hD; exact hD
  have fH : Ex F (upd H d (.frz od (.dK us))) := Ex.mut w.fx fd
  refine lc_it (n := us.length) (G := fun H => H d = some (.frz od (.dK us))) walk_keys (fun n H' => ∃ F', Lw τ F (upd H d (.frz od (.dK us))) D ((l.take n).map (·.2)) F' H') ⟨F, Lw.start fH hD⟩ (fun n H' _ ⟨F', lw⟩ => lw.st.h _ _ upd_same) ?_ ?_
  · rintro n x H' H'' hn ⟨F', lw⟩ ⟨rfl, k, v, hk, rfl⟩
    obtain ⟨e, he, rfl, rv⟩ := ents_get (r.up lw.st.f) hk
    refine ⟨wipe1, ?_⟩
    unfold tYes
    dsimp only
    rw [if_pos rfl, wipe_set]
    have hjs : j < σ.length := by rw [← w.len]; exact hj
    refine ⟨.ref d, by rw [List.getElem?_set_ne (fun e => hij e.symm)]; exact h1, _, List.getElem?_set_self hjs, d, v, rfl, ?_, ?_⟩
    · have ek : valV us (.inl e.1) = some v := by
        have z := ents_lk (k := e.1) (r.up lw.st.f)
        rw [lk_of nd (List.mem_of_getElem? he)] at z
        obtain ⟨v', z1, _⟩ := z
        have nd2 : (us.map (·.1)).Nodup := by
          have : us.map (·.1) = l.map fun e => (Sum.inl e.1 : Key) := by
            have key : ∀ {us : List (Key × V)} {l : List (Int × α)}, Ents τ F us l → us.map (·.1) = l.map fun e => (Sum.inl e.1 : Key) := by
              intro us l h
              induction h with
              | nil => rfl
              | cons a t ih => rw [List.map_cons, List.map_cons, ih, a.1]
            exact key r
          rw [this]
          have : (l.map fun e => (Sum.inl e.1 : Key)) = (l.map (·.1)).map Sum.inl := by rw [List.map_map]; rfl
          rw [this]
          unfold List.Nodup at nd ⊢
          rw [List.pairwise_map]
          exact nd.imp fun {a b} h e => h (Sum.inl.inj e)
        have : valV us (.inl e.1) = some v := by
          have hm := List.mem_of_getElem? hk
          clear z1 hn hk he r hH h1 fH hD lw rv m hl hjs
          induction us with
          | nil => cases hm
          | cons u us ih =>
            have nd' := List.nodup_cons.mp nd2
            cases hm with
            | head => exact valV_pos (p := (Sum.inl e.1, v)) rfl
            | tail _ hm =>
              have ne : u.1 ≠ .inl e.1 := fun q => nd'.1 (List.mem_map.mpr ⟨_, hm, q.symm⟩)
              rw [valV_neg ne]
              exact ih nd'.2 hm
        exact this
      exact .inl ⟨us, .inl e.1, .inr ⟨od, lw.st.h _ _ upd_same⟩, rfl, ek.symm⟩
    obtain ⟨acc, g1, g2⟩ := lw.it
    refine ⟨acc, g1, sz_lt ?_, F', ?_⟩
    · rw [pr_len g2, List.length_map, List.length_take]; omega
    rw [take_succ_of he, List.map_append]
    exact lw.app hD g1 g2 rv
  · rintro H' ⟨F', lw⟩
    rw [hl, List.take_length] at lw
    have hd' : H' d = some (.frz od (.dK us)) := lw.st.h _ _ upd_same
    refine ⟨hd', ?_⟩
    obtain ⟨acc, g1, g2⟩ := lw.it
    have fd' : F' d = none := none_of fun o ho => by
      have := lw.st.n d o ho fd
      rw [upd_same] at this; cases this
    refine q _ F' (one D (.lst acc)) _ ⟨lw.st.f, fun a o ho => ?_, fun a o ho => ?_, fun a o ho n => ?_⟩ (one_ex (by rw [upd_ne nDd]; exact g1)) (fun a o ho => ?_) ⟨D, acc, rfl, rfl, g2⟩
    · by_cases e : a = d
      · rw [e, upd_same]; rw [e, hH] at ho; exact ho
      · rw [upd_ne e]; exact lw.st.h _ _ (by rw [upd_ne e]; exact ho)
    · rw [upd_ne (ne_of_none ho fd')]; exact lw.st.fh _ _ ho
    · have := lw.st.n a o ho n
      by_cases e : a = d
      · rw [e, upd_same] at this; cases this
      · rw [upd_ne e] at this; exact this
    · obtain ⟨rfl, _⟩ := one_some ho
      exact ⟨hD0, lw.fd⟩
/-! ### the place of an item; the rest of a list -/
theorem eg_index {l : List Int} {y : Int} {j : Nat} (ha : EL K c Γ ta aI l) (hb : EG c Γ tb aI y) (hy : l[j]? = some y) (hn : ∀ m z, m < j → l[m]? = some z → z ≠ y) : EG c Γ (tBM K "list" (rIndex K) ta (tCons tb tNil)) aI (j : Int) := fun σ F Ms H w Q q =>
  ha σ F Ms H w _ fun a us F1 H1 s1 h1 i1 => ⟨.inl ⟨rfl, us, h1⟩, hb σ F1 Ms H1 (w.step s1) _ fun v F2 H2 s2 r2 => by
    have e := its_tM.mp i1
    subst e
    refine ⟨a, _, v, j, .int y, rfl, rfl, ex_l s2.h h1, by rw [show v = V.int y from r2]; rfl, flat_int, by rw [List.getElem?_map, hy]; rfl, by rw [show v = V.int y from r2]; simp [eqV], fun m z hm hz => ?_, q _ F2 H2 (s1.trans s2) rfl⟩
    rw [List.getElem?_map] at hz
    obtain ⟨z', hz', rfl⟩ := Option.map_eq_some_iff.mp hz
    rw [show v = V.int y from r2]
    have := hn m z' hm hz'
    simp [eqV, this]⟩
theorem cutL_from {l : List α} {j : Nat} (h : j ≤ l.length) : cutL l (some (j : Int)) none = l.drop j := by
  have e1 : HT.sIx l.length 0 (some (j : Int)) = j := by rw [HT.sIx_nat]; omega
  have e2 : HT.sIx l.length l.length none = l.length := rfl
  unfold cutL
  rw [e1, e2, List.take_of_length_le (by rw [List.length_drop]; exact Nat.le_refl _)]
end
end HG

/-! plain facts of rings, of what solving tells -/
namespace HG
open PySem PyProof.Rows L2 Evl HW
/-- the first m places that one goes through from p -/
def path (f : Nat → Nat) (p m : Nat) : List Nat := (List.range m).map fun i => iter f i p
theorem path_succ (f : Nat → Nat) (p m : Nat) : path f p (m + 1) = path f p m ++ [iter f m p] := by
  unfold path; rw [List.range_succ, List.map_append]; rfl
theorem path_len (f : Nat → Nat) (p m : Nat) : (path f p m).length = m := by simp [path]
theorem path_get {f : Nat → Nat} {p m i : Nat} (h : i < m) : (path f p m)[i]? = some (iter f i p) := by
  unfold path
  rw [List.getElem?_map, List.getElem?_range h]; rfl
theorem iter_add (f : Nat → Nat) : ∀ (a b p : Nat), iter f (a + b) p = iter f b (iter f a p)
  | 0, b, p => by rw [Nat.zero_add]; rfl
  | a + 1, b, p => by rw [Nat.succ_add]; exact iter_add f a b (f p)
theorem iter_one (f : Nat → Nat) (a p : Nat) : iter f (a + 1) p = f (iter f a p) := iter_add f a 1 p
section
variable {n : Int} {gs : List (List Int)} {rows : List Rw3} {pk : Nat → Rw3}
/-- on the way from a place: all places so far are no root and each once -/
structure Way (gs : List (List Int)) (pk : Nat → Rw3) (p k : Nat) : Prop where
  nd : (path (nx gs pk) p k).Nodup
  rg : ∀ q ∈ path (nx gs pk) p k, 1 ≤ q ∧ q < gs.length
  here : iter (nx gs pk) k p < gs.length
theorem Way.start (p : Nat) (h : p < gs.length) : Way gs pk p 0 := ⟨List.nodup_nil, fun q hq => (nomatch hq), h⟩
theorem Way.next (L : Level n gs rows pk) {p k : Nat} (w : Way gs pk p k) (h0 : iter (nx gs pk) k p ≠ 0) (hn : iter (nx gs pk) k p ∉ path (nx gs pk) p k) : Way gs pk p (k + 1) where
  nd := by
    rw [path_succ, List.nodup_append]
    exact ⟨w.nd, by simp, fun a ha b hb e => by rw [List.mem_singleton.mp hb] at e; rw [e] at ha; exact hn ha⟩
  rg := fun q hq => by
    rw [path_succ] at hq
    rcases List.mem_append.mp hq with hq | hq
    · exact w.rg q hq
    · rw [List.mem_singleton.mp hq]; exact ⟨by omega, w.here⟩
  here := by rw [iter_one]; exact L.nx_lt w.here
theorem Way.few {p k : Nat} (w : Way gs pk p k) : k ≤ gs.length := by
  have := w.nd.length_le_of_subset (l₂ := List.range gs.length) fun q hq => List.mem_range.mpr (w.rg q hq).2
  rwa [path_len, List.length_range] at this
/-- where one comes again: the ring -/
theorem Way.ring {p k j : Nat} (w : Way gs pk p k) (h0 : iter (nx gs pk) k p ≠ 0) (hj : j < k) (e : iter (nx gs pk) j p = iter (nx gs pk) k p) : Ring gs pk ((path (nx gs pk) p k).drop j) where
  ne := fun q => by
    have := congrArg List.length q
    rw [List.length_drop, path_len] at this
    simp at this
    omega
  nd := w.nd.sublist (List.drop_sublist _ _)
  rg := fun q hq => w.rg q (List.mem_of_mem_drop hq)
  cl := fun q hq => by
    obtain ⟨i, hi⟩ := List.mem_iff_getElem?.mp hq
    rw [List.getElem?_drop] at hi
    have hik : j + i < k := by
      have := (List.getElem?_eq_some_iff.mp hi).1
      rwa [path_len] at this
    rw [path_get hik] at hi
    rw [← Option.some.inj hi, ← iter_one (nx gs pk)]
    by_cases c : j + i + 1 < k
    · refine List.mem_of_getElem? (i := i + 1) ?_
      rw [List.getElem?_drop, show j + (i + 1) = j + i + 1 by omega]
      exact path_get c
    · have : j + i + 1 = k := by omega
      rw [this, ← e]
      refine List.mem_of_getElem? (i := 0) ?_
      rw [List.getElem?_drop]
      exact path_get hj
  go := fun a ha b hb => by
    obtain ⟨i, hi⟩ := List.mem_iff_getElem?.mp ha
    obtain ⟨i', hi'⟩ := List.mem_iff_getElem?.mp hb
    rw [List.getElem?_drop] at hi hi'
    have h1 : j + i < k := by have := (List.getElem?_eq_some_iff.mp hi).1; rwa [path_len] at this
    have h2 : j + i' < k := by have := (List.getElem?_eq_some_iff.mp hi').1; rwa [path_len] at this
    rw [path_get h1] at hi
    rw [path_get h2] at hi'
    refine ⟨(k - (j + i)) + i', ?_⟩
    rw [← Option.some.inj hi, ← Option.some.inj hi', iter_add, ← iter_add (nx gs pk) (j + i), show j + i + (k - (j + i)) = k by omega, ← e, ← iter_add]
/-- what the look for a ring tells -/
def RingOk (gs : List (List Int)) (pk : Nat → Rw3) : Option (List Int) → Prop
  | none => ∀ p, 1 ≤ p → p < gs.length → ∃ m, iter (nx gs pk) m p = 0
  | some l => ∃ ring, l = ringI ring ∧ Ring gs pk ring
/-- no pick stays in its group -/
theorem Level.moves (L : Level n gs rows pk) {p : Nat} (h1 : 1 ≤ p) (h2 : p < gs.length) : nx gs pk p ≠ p := by
  have e : nx gs pk p = pl gs (pk p).1 := if_neg (by omega)
  rw [e]
  exact L.psrc h1 h2
/-! ### what solving tells -/
/-- a lonely group, or one hearing into each group with prices -/
def SolvedOk (n : Int) (gs : List (List Int)) (rows : List Rw3) (P : List Price) : List Int ⊕ List Rw3 → Prop
  | .inl g => Lone n gs rows g
  | .inr F => Fam n gs rows F P
end
end HG

/-! == of data; what a thing's kind is; loops that carry a state -/
namespace HG
open PySem PyProof.Rows L2 Evl HW
variable {α β γ : Type}
structure Dt (τ : Ty α) (f : α → PyData) (d : Nat) : Prop where
  dp : ∀ {K : PySem.W.Frag} {x : α} {F H : Hp} {v : V}, τ.R x F v → Ex F H → Dp K H v (f x)
  lay : ∀ x, (f x).canLay0 = true
  dep : ∀ x, (f x).depth ≤ d
  inj : ∀ x y, PyData.eqv (f x) (f y) = true ↔ x = y
theorem dt_I : Dt aI PyData.int 0 where
  dp := fun {K x F H v} r _ => by cases (show v = V.int x from r); exact .int x
  lay := fun _ => rfl
  dep := fun _ => Nat.le_refl _
  inj := fun x y => by simp [PyData.eqv]
theorem dt_B : Dt aB PyData.bool 0 where
  dp := fun {K x F H v} r _ => by cases (show v = V.bl x from r); exact .bl x
  lay := fun _ => rfl
  dep := fun _ => Nat.le_refl _
  inj := fun x y => by simp [PyData.eqv]
def datO : Option Int → PyData
  | none => .none
  | some i => .int i
theorem dt_O : Dt aO datO 0 where
  dp := fun {K x F H v} r _ => by
    cases (show v = optV x from r)
    cases x with
    | none => exact .non
    | some i => exact .int i
  lay := fun x => by cases x <;> rfl
  dep := fun x => by cases x <;> exact Nat.le_refl _
  inj := fun x y => by cases x <;> cases y <;> simp [PyData.eqv, datO]
section
variable {τ : Ty α} {θ : Ty β} {ρ : Ty γ} {f : α → PyData} {g : β → PyData} {k : γ → PyData} {d e m : Nat}
theorem dpAll {K : PySem.W.Frag} (D : Dt τ f d) {F H : Hp} (e : Ex F H) : ∀ {us : List V} {l : List α}, Its τ F us l → DpAll K H us (l.map f)
  | _, _, .nil => .nil
  | _, _, .cons r t => .cons (D.dp r e) (dpAll D e t)
theorem layAll (h : ∀ x, (f x).canLay0 = true) : ∀ l : List α, PyData.canLayAll0 (l.map f) = true
  | [] => rfl
  | x :: l => by
    show ((f x).canLay0 && PyData.canLayAll0 (l.map f)) = true
    rw [h x, layAll h l]; rfl
theorem depAll (h : ∀ x, (f x).depth ≤ d) : ∀ l : List α, PyData.depthAll (l.map f) ≤ d
  | [] => Nat.zero_le _
  | x :: l => by
    show max (f x).depth (PyData.depthAll (l.map f)) ≤ d
    have := h x
    have := depAll h l
    omega
theorem eqvAll_inj (h : ∀ x y, PyData.eqv (f x) (f y) = true ↔ x = y) : ∀ l m : List α, PyData.eqvAll (l.map f) (m.map f) = true ↔ l = m
  | [], [] => by simp [PyData.eqvAll]
  | [], y :: m => by simp [PyData.eqvAll]
  | x :: l, [] => by simp [PyData.eqvAll]
  | x :: l, y :: m => by
    show (PyData.eqv (f x) (f y) && PyData.eqvAll (l.map f) (m.map f)) = true ↔ _
    rw [Bool.and_eq_true, h, eqvAll_inj h l m, List.cons.injEq]
theorem dt_L (D : Dt τ f d) : Dt (aL τ) (fun l => .list (l.map f)) (d + 1) where
  dp := fun {K x F H v} ⟨p, us, e1, e2, e3⟩ e => by
    subst e1
    exact .lst (.inl (.inl (e _ _ e2))) (dpAll D e e3)
  lay := fun l => layAll D.lay l
  dep := fun l => by
    show PyData.depthAll (l.map f) + 1 ≤ d + 1
    have := depAll D.dep l
    omega
  inj := fun x y => by
    show PyData.eqvAll (x.map f) (y.map f) = true ↔ _
    exact eqvAll_inj D.inj x y
theorem dt_P (D : Dt τ f d) (D2 : Dt θ g d) : Dt (aP τ θ) (fun x => .tuple [f x.1, g x.2]) (d + 1) where
  dp := fun {K x F H v} ⟨p, u, w, e1, e2, e3, e4⟩ e => by
    subst e1
    exact .tup (.inl (.inl (e _ _ e2))) (.cons (D.dp e3 e) (.cons (D2.dp e4 e) .nil))
  lay := fun x => by
    show ((f x.1).canLay0 && ((g x.2).canLay0 && true)) = true
    rw [D.lay, D2.lay]; rfl
  dep := fun x => by
    show max (f x.1).depth (max (g x.2).depth 0) + 1 ≤ d + 1
    have := D.dep x.1
    have := D2.dep x.2
    omega
  inj := fun x y => by
    show (PyData.eqv (f x.1) (f y.1) && (PyData.eqv (g x.2) (g y.2) && true)) = true ↔ _
    rw [Bool.and_true, Bool.and_eq_true, D.inj, D2.inj]
    exact ⟨fun h => Prod.ext h.1 h.2, fun h => ⟨by rw [h], by rw [h]⟩⟩
theorem dt_T (D : Dt τ f d) (D2 : Dt θ g d) (D3 : Dt ρ k d) : Dt (aT τ θ ρ) (fun x => .tuple [f x.1, g x.2.1, k x.2.2]) (d + 1) where
  dp := fun {K x F H v} ⟨p, u, w, z, e1, e2, e3, e4, e5⟩ e => by
    subst e1
    exact .tup (.inl (.inl (e _ _ e2))) (.cons (D.dp e3 e) (.cons (D2.dp e4 e) (.cons (D3.dp e5 e) .nil)))
  lay := fun x => by
    show ((f x.1).canLay0 && ((g x.2.1).canLay0 && ((k x.2.2).canLay0 && true))) = true
    rw [D.lay, D2.lay, D3.lay]; rfl
  dep := fun x => by
    show max (f x.1).depth (max (g x.2.1).depth (max (k x.2.2).depth 0)) + 1 ≤ d + 1
    have := D.dep x.1
    have := D2.dep x.2.1
    have := D3.dep x.2.2
    omega
  inj := fun x y => by
    show (PyData.eqv (f x.1) (f y.1) && (PyData.eqv (g x.2.1) (g y.2.1) && (PyData.eqv (k x.2.2) (k y.2.2) && true))) = true ↔ _
    rw [Bool.and_true, Bool.and_eq_true, Bool.and_eq_true, D.inj, D2.inj, D3.inj]
    exact ⟨fun h => Prod.ext h.1 (Prod.ext h.2.1 h.2.2), fun h => ⟨by rw [h], by rw [h], by rw [h]⟩⟩
/-- none, or a list -/
def datOL (f : α → PyData) : Option (List α) → PyData
  | none => .none
  | some l => .list (l.map f)
theorem dt_OL (D : Dt τ f d) : Dt (aOp (aL τ)) (datOL f) (d + 1) where
  dp := fun {K x F H v} r e => by
    cases x with
    | none => cases (show v = V.non from r); exact .non
    | some l => exact (dt_L D).dp (x := l) r e
  lay := fun x => by
    cases x with
    | none => rfl
    | some l => exact (dt_L D).lay l
  dep := fun x => by
    cases x with
    | none => exact Nat.zero_le _
    | some l => exact (dt_L D).dep l
  inj := fun x y => by
    cases x with
    | none => cases y with
      | none => simp [PyData.eqv, datOL]
      | some l => simp [PyData.eqv, datOL]
    | some l => cases y with
      | none => simp [PyData.eqv, datOL]
      | some m =>
        rw [show (some l = some m) = (l = m) by simp]
        exact (dt_L D).inj l m
theorem Dt.shaped (D : Dt τ f d) (hd : d ≤ 64) (x : α) : SeqAt.shaped (f x) = true := by
  unfold SeqAt.shaped
  rw [D.lay x, decide_eq_true (Nat.le_trans (D.dep x) hd)]; rfl
theorem Dt.eqv [DecidableEq α] (D : Dt τ f d) (x y : α) : PyData.eqv (f x) (f y) = decide (x = y) := by
  rw [Bool.eq_iff_iff, D.inj, decide_eq_true_iff]
end
section
variable {K : PySem.W.Frag} {C : Addr} {c : Cw} {Γ Δ : List Spec} {ta tb te tl td : TE} {t u : TT} {τ : Ty α} {θ : Ty β} {x : α} {y : β} {D : Ends} {tu tw tz ts : TS} {f : α → PyData} {d : Nat}
theorem eg_eqD [DecidableEq α] {x y : α} (D : Dt τ f d) (ha : EG c Γ ta τ x) (hb : EG c Γ tb τ y) (hd : d ≤ 64 := by decide) : EG c Γ (tOp (rEqD K) ta tb) aB (decide (x = y)) := fun σ F Ms H w Q q =>
  ha σ F Ms H w _ fun u F1 H1 s1 r1 => hb σ F1 Ms H1 (w.step s1) _ fun v F2 H2 s2 r2 => ⟨f x, f y, D.dp (τ.up r1 s2.f) s2.fh, D.dp r2 s2.fh, D.shaped hd x, D.shaped hd y, by rw [D.eqv]; exact q _ F2 H2 (s1.trans s2) rfl⟩
theorem eg_neD [DecidableEq α] {x y : α} (D : Dt τ f d) (ha : EG c Γ ta τ x) (hb : EG c Γ tb τ y) (hd : d ≤ 64 := by decide) : EG c Γ (tOp (rNeD K) ta tb) aB (!decide (x = y)) := fun σ F Ms H w Q q =>
  ha σ F Ms H w _ fun u F1 H1 s1 r1 => hb σ F1 Ms H1 (w.step s1) _ fun v F2 H2 s2 r2 => ⟨f x, f y, D.dp (τ.up r1 s2.f) s2.fh, D.dp r2 s2.fh, D.shaped hd x, D.shaped hd y, by rw [D.eqv]; exact q _ F2 H2 (s1.trans s2) rfl⟩
theorem dt_row : Dt (aT aI aI aI) (fun x => .tuple [.int x.1, .int x.2.1, .int x.2.2]) 1 := dt_T dt_I dt_I dt_I
theorem dt_pair : Dt (aP aI aI) (fun x => .tuple [.int x.1, .int x.2]) 1 := dt_P dt_I dt_I
/-! ### tests that raise -/
def XT (c : Cw) (Γ : List Spec) (tt : TT) (E : XK) (B : Addr) : Prop := ∀ σ F Ms H, Wd c Γ σ F Ms H → (∀ H', ExcOk c H' → E (.ref B) none H') → ∀ Q, tt σ H Q
theorem xt_test {E : XK} {B : Addr} (h : XG c Γ te E B) : XT c Γ (tTest te) E B := fun σ F Ms H w x Q => h σ F Ms H w x _
theorem xt_not {E : XK} {B : Addr} (h : XT c Γ t E B) : XT c Γ (tNot t) E B := fun σ F Ms H w x Q => h σ F Ms H w x _
theorem t_ifX {E : XK} {B : Addr} (h : XT c Γ t E B) (q : ∀ H', ExcOk c H' → E (.ref B) none H') : Tr c Γ (tSeq (tIfS t tu tw) tz) D := fun σ H ⟨F, Ms, w⟩ => h σ F Ms H w q _
/-! ### isinstance -/
theorem eg_isi {x : V} {n : String} {tn : String} {b : Bool} (ha : EG c Γ ta aV x) (ht : ∀ K H, TyX K H x (.type tn)) (hk : ∀ K, PySem.W.kitOne K (.type tn) (.type n) = some b) : EG c Γ (tCB (rIsi K) (tCons ta (tCons (tC (.ty n)) tNil))) aB b := fun σ F Ms H w Q q =>
  ha σ F Ms H w _ fun v F1 H1 s1 r1 => ⟨x, .ty n, .type tn, .type n, b, by rw [show v = x from r1], .ty n, ht _ _, hk _, q _ F1 H1 s1 rfl⟩
/-- of a thing of a kind -/
def Kd (τ : Ty α) (tn : String) : Prop := ∀ K x F H v, τ.R x F v → Ex F H → TyX K H v (.type tn)
theorem eg_isiT {n tn : String} {b : Bool} (k : Kd τ tn) (ha : EG c Γ ta τ x) (hk : ∀ K, PySem.W.kitOne K (.type tn) (.type n) = some b) : EG c Γ (tCB (rIsi K) (tCons ta (tCons (tC (.ty n)) tNil))) aB b := fun σ F Ms H w Q q =>
  ha σ F Ms H w _ fun v F1 H1 s1 r1 => ⟨v, .ty n, .type tn, .type n, b, rfl, .ty n, k _ _ _ _ _ r1 s1.fh, hk _, q _ F1 H1 s1 rfl⟩
theorem kd_I : Kd aI "int" := fun K x F H v r _ => by cases (show v = V.int x from r); exact .base (.int x)
theorem kd_B : Kd aB "bool" := fun K x F H v r _ => by cases (show v = V.bl x from r); exact .base (.bl x)
theorem kd_S : Kd aS "str" := fun K x F H v r _ => by cases (show v = V.str x from r); exact .base (.str x)
theorem kd_L : Kd (aL τ) "list" := fun K x F H v ⟨p, us, e1, e2, _⟩ e => by subst e1; exact .base (.lst (e _ _ e2))
theorem kd_P : Kd (aP τ θ) "tuple" := fun K x F H v ⟨p, u, w, e1, e2, _⟩ e => by subst e1; exact .base (.tup (e _ _ e2))
theorem kd_T {γ : Type} {ρ : Ty γ} : Kd (aT τ θ ρ) "tuple" := fun K x F H v ⟨p, u, w, z, e1, e2, _⟩ e => by subst e1; exact .base (.tup (e _ _ e2))
/-! ### loops that carry a state -/
/-- for some state -/
def AtS {ι : Type} (c : Cw) (I : ι → Prop) (Γs : ι → List Spec) : L2.St → Hp → Prop := fun σ H => ∃ s, I s ∧ Hd c (Γs s) σ H
theorem t_endS {ι : Type} {I : ι → Prop} {Γs : ι → List Spec} {rt : VK} {bk ct : L2.St → Hp → Prop} (s : ι) (h : Wk Γ (Γs s)) (hs : I s) : Tr c Γ tNext { nx := AtS c I Γs, rt := rt, bk := bk, ct := ct } := fun σ H ⟨F, Ms, w⟩ => ⟨s, hs, F, Ms, w.weak h⟩
theorem t_forR2S {ι : Type} {a n : Int} {j : Nat} (Γi : Nat → ι → List Spec) (I : Nat → ι → Prop) (s0 : ι) (ha : EG c Γ ta aI a) (hn : EG c Γ tb aI n) (hz : -100000 < a ∧ a < 100000 ∧ -100000 < n ∧ n < 100000) (h0 : Wk Γ (Γi 0 s0)) (i0 : I 0 s0)
    (hs : ∀ (i : Nat) s, a + (i : Int) < n → I i s → Tr c ((Γi i s).set j (.is aI (a + (i : Int)))) tb' { D with nx := AtS c (I (i + 1)) (Γi (i + 1)), ct := AtS c (I (i + 1)) (Γi (i + 1)), bk := tz D }) (hd : ∀ s, I (n - a).toNat s → Tr c (Γi (n - a).toNat s) tz D) :
    Tr c Γ (tSeq (tFor (iRng2 (tCons ta (tCons tb tNil))) (gName j) tb') tz) D := fun σ H ⟨F, Ms, w⟩ => ha σ F Ms H w _ fun v F1 H1 s1 r1 => hn σ F1 Ms H1 (w.step s1) _ fun v2 F2 H2 s2 r2 => ⟨a, n, by rw [show v = V.int a from r1, show v2 = V.int n from r2], by omega, by
  refine for_range (lo := a) (n := (n - a).toNat) (fun i σ' H' => AtS c (I i) (Γi i) σ' H') ⟨s0, i0, F2, Ms, ((w.step s1).step s2).weak h0⟩ ?_ (fun σ' H' ⟨s, ii, h'⟩ => hd s ii σ' H' h')
  rintro i σ' H' hi ⟨s, ii, F', Ms', w'⟩
  exact hs i s (by omega) ii _ _ ⟨F', Ms', w'.set (τ := aI) (x := a + (i : Int)) j rfl⟩⟩
theorem t_forLS {ι : Type} {l : List α} {j : Nat} (Γi : Nat → ι → List Spec) (I : Nat → ι → Prop) (s0 : ι) (hl : EF K c Γ tl τ l) (h0 : Wk Γ (Γi 0 s0)) (i0 : I 0 s0)
    (hs : ∀ i x s, l[i]? = some x → I i s → ∀ d, c.le d → Tr d ((Γi i s).set j (.is τ x)) tb' { D with nx := AtS d (I (i + 1)) (Γi (i + 1)), ct := AtS d (I (i + 1)) (Γi (i + 1)), bk := tz D }) (hd : ∀ s, I l.length s → Tr c (Γi l.length s) tz D) :
    Tr c Γ (tSeq (tFor (iList K tl) (gName j) tb') tz) D := fun σ H ⟨F, Ms, w⟩ => hl σ F Ms H w _ fun a us F1 H1 s1 h1 i1 => ⟨a, rfl, ⟨us, ex_l s1.fh h1⟩, by
  have w1 := w.step s1
  have hle := w1.here_le
  refine for_list (K := K) (a := a) (xs := us) (fun i σ' H' => AtS (c.here F1) (I i) (Γi i) σ' H') ⟨s0, i0, F1, Ms, w1.here.weak h0⟩ (fun i σ' H' _ ⟨_, _, F', Ms', w'⟩ => ex_l (w'.af.trans w'.fx) h1) ?_ ?_
  · rintro i v σ' H' hv ⟨s, ii, F', Ms', w'⟩
    obtain ⟨b, hb, hr⟩ := pr_get i1 hv
    exact hs i b s hb ii _ hle _ _ ⟨F', Ms', w'.set j (τ.up hr w'.af)⟩
  · rintro σ' H' ⟨s, ii, F', Ms', w'⟩
    rw [pr_len i1] at w' ii
    exact hd s ii σ' H' ⟨F', Ms', w'.sub hle⟩⟩
end
/-! ### the dict of sorted rows -/
theorem rowsOf_as {rows : List Rw3} (h : rows.Pairwise lt2) : rowsOf (asKvs rows) = rows := by
  have e : (asKvs rows).map rowOf = rows := by
    unfold asKvs
    rw [List.map_map]
    conv => rhs; rw [← List.map_id rows]
    rfl
  have nd : ((asKvs rows).map (·.1)).Nodup := by
    refine asKvs_nd ?_
    unfold Uq List.Nodup
    rw [List.pairwise_map]
    refine h.imp fun {a b} q e => ?_
    have q' : a.1 < b.1 ∨ (a.1 = b.1 ∧ a.2.1 < b.2.1) := q
    have e1 : a.1 = b.1 := congrArg (·.1) e
    have e2 : a.2.1 = b.2.1 := congrArg (·.2) e
    omega
  refine lt2_uniq (rowsOf_lt nd) h ?_
  have := rowsOf_perm (asKvs rows)
  rwa [e] at this
theorem lt2_uq {rows : List Rw3} (h : rows.Pairwise lt2) : Uq rows := by
  unfold Uq List.Nodup
  rw [List.pairwise_map]
  refine h.imp fun {a b} q e => ?_
  have q' : a.1 < b.1 ∨ (a.1 = b.1 ∧ a.2.1 < b.2.1) := q
  have e1 : a.1 = b.1 := congrArg (·.1) e
  have e2 : a.2.1 = b.2.1 := congrArg (·.2) e
  omega
/-- rows of which a book can be made -/
structure GoodR (n : Int) (rows : List Rw3) : Prop where
  n1 : 1 ≤ n
  n2 : n ≤ 12
  srt : rows.Pairwise lt2
  rg : ∀ r ∈ rows, (0 ≤ r.1 ∧ r.1 < n) ∧ (1 ≤ r.2.1 ∧ r.2.1 < n) ∧ r.1 ≠ r.2.1
  c0 : ∀ r ∈ rows, 0 ≤ r.2.2
theorem GoodR.book {n : Int} {rows : List Rw3} (G : GoodR n rows) : GoodB n (asKvs rows) where
  n1 := G.n1
  n2 := G.n2
  nd := asKvs_nd (lt2_uq G.srt)
  rg := fun e he => by obtain ⟨r, hr, rfl⟩ := List.mem_map.mp he; exact G.rg r hr
  c0 := fun e he => by obtain ⟨r, hr, rfl⟩ := List.mem_map.mp he; exact G.c0 r hr
theorem GoodB.rows {n : Int} {kvs : Kvs} (G : GoodB n kvs) : GoodR n (rowsOf kvs) where
  n1 := G.n1
  n2 := G.n2
  srt := rowsOf_lt G.nd
  rg := fun r hr => G.rg _ (mem_rowsOf.mp hr)
  c0 := fun r hr => G.c0 _ (mem_rowsOf.mp hr)
theorem GoodR.filter {n : Int} {rows : List Rw3} (G : GoodR n rows) (p : Rw3 → Bool) : GoodR n (rows.filter p) where
  n1 := G.n1
  n2 := G.n2
  srt := G.srt.sublist List.filter_sublist
  rg := fun r hr => G.rg r (List.mem_filter.mp hr).1
  c0 := fun r hr => G.c0 r (List.mem_filter.mp hr).1
theorem GoodR.eq {n : Int} {rows : List Rw3} (G : GoodR n rows) : rowsOf (asKvs rows) = rows := rowsOf_as G.srt
theorem GoodR.few {n : Int} {rows : List Rw3} (G : GoodR n rows) : rows.length ≤ 144 := by
  have := G.book.small
  rwa [asKvs_len] at this
theorem GoodR.rin {n : Int} {rows : List Rw3} (G : GoodR n rows) : RowsIn n rows := by
  have := G.book.rin
  rwa [G.eq] at this
/-! ### the first one -/
open Classical in
noncomputable def firstV (n : Int) (rows : List Rw3) : Option Fml := if h : ∃ fam, FirstIs n rows fam then some (Classical.choose h) else none
theorem firstV_eq {n : Int} {rows : List Rw3} {fam : Fml} (h : FirstIs n rows fam) : firstV n rows = some fam := by
  have hx : ∃ fam, FirstIs n rows fam := ⟨fam, h⟩
  unfold firstV
  rw [dif_pos hx, (Classical.choose_spec hx).uniq h]
theorem firstV_none {n : Int} {rows : List Rw3} (h : leastV n rows = none) : firstV n rows = none := by
  unfold firstV
  rw [dif_neg]
  rintro ⟨fam, F⟩
  have := F.low
  rw [h] at this; cases this
theorem firstV_is {n : Int} {rows : List Rw3} {fam : Fml} (h : firstV n rows = some fam) : FirstIs n rows fam := by
  unfold firstV at h
  split at h
  · rename_i hx
    rw [← Option.some.inj h]
    exact Classical.choose_spec hx
  · cases h
/-! ### lacks, free and bound hearings -/
noncomputable def lackV (n : Int) (rows : List Rw3) (a b : Int) : Option Int := match leastV n (onlyR rows a b) with
  | none => none
  | some m => some (m - (leastV n rows).getD 0)
noncomputable def freeR (n : Int) (rows : List Rw3) : List (Int × Int) := (rows.filter fun r => decide (lackV n rows r.1 r.2.1 = some 0)).map fun r => (r.1, r.2.1)
noncomputable def boundR (n : Int) (rows : List Rw3) : List (Int × Int) := (freeR n rows).filter fun p => !decide (leastV n (lessR rows p.1 p.2) = leastV n rows)
end HG

/-! what the laws draw -/
namespace HG
open PySem PyProof.Rows L2 Evl HW
def cellV (s : List Int) (k : Int) : Int := (s[k.toNat]?).getD 0
def mixV (c k : Int) : Int :=
  let s1 := (c * 48271 + 104729 * k + 11) % 2147483647
  let s2 := (s1 * s1 + 7919 * k + 5) % 2147483629
  s2 * s2 % 2147483587
theorem mixV_nn (c k : Int) : 0 ≤ mixV c k := Int.emod_nonneg _ (by decide)
def wholeB : V → Bool
  | .int _ => true
  | _ => false
def Scal4 : V → Prop
  | .int _ => True
  | .bl _ => True
  | .non => True
  | .str _ => True
  | _ => False
def manyV (c : Int) : Int := if c / 6 % 9 = 4 then 12 else 1 + c % 6
theorem manyV_rg (c : Int) : 1 ≤ manyV c ∧ manyV c ≤ 12 := by
  unfold manyV
  split <;> omega
/-- the drawn rows -/
def shareV (s : List Int) : Int := (([2, 4, 6, 8, 10] : List Int)[(cellV s 1 % 5).toNat]?).getD 0
def mostV (s : List Int) : Int := (([8, 40, 1000001] : List Int)[(cellV s 1 / 5 % 3).toNat]?).getD 1
def drawnV (s : List Int) (a b : Int) : Int := mixV (cellV s (3 + (5 * a + b) % 30) + 5003 * a) b / 7
def rowT (s : List Int) (a b : Int) : Bool := (!decide (a = b)) && decide (drawnV s a b % 10 < shareV s)
def rowV (s : List Int) (a b : Int) : Rw3 := (a, b, drawnV s a b / 10 % mostV s)
def rowsA (s : List Int) (a : Int) (m : Nat) : List Rw3 := ((List.range m).filter fun (j : Nat) => rowT s a (1 + (j : Int))).map fun (j : Nat) => rowV s a (1 + (j : Int))
def rowsN (s : List Int) (n : Int) (i : Nat) : List Rw3 := (List.range i).flatMap fun (a : Nat) => rowsA s (a : Int) (n - 1).toNat
def rowsV (s : List Int) (n : Int) : List Rw3 := rowsN s n n.toNat
theorem mostV_pos (s : List Int) : 0 < mostV s := by
  unfold mostV
  have h1 : 0 ≤ cellV s 1 / 5 % 3 := Int.emod_nonneg _ (by decide)
  have h2 : cellV s 1 / 5 % 3 < 3 := Int.emod_lt_of_pos _ (by decide)
  have : (cellV s 1 / 5 % 3).toNat = 0 ∨ (cellV s 1 / 5 % 3).toNat = 1 ∨ (cellV s 1 / 5 % 3).toNat = 2 := by omega
  rcases this with e | e | e <;> rw [e] <;> decide
theorem drawnV_nn (s : List Int) (a b : Int) : 0 ≤ drawnV s a b := Int.ediv_nonneg (mixV_nn _ _) (by decide)
theorem rowsA_succ (s : List Int) (a : Int) (m : Nat) : rowsA s a (m + 1) = rowsA s a m ++ (if rowT s a (1 + (m : Int)) = true then [rowV s a (1 + (m : Int))] else []) := by
  unfold rowsA
  rw [List.range_succ, List.filter_append, List.map_append]
  congr 1
  by_cases c : rowT s a (1 + (m : Int)) = true
  · rw [if_pos c, List.filter_cons_of_pos (p := fun j : Nat => rowT s a (1 + (j : Int))) c]; rfl
  · rw [if_neg c, List.filter_cons_of_neg (p := fun j : Nat => rowT s a (1 + (j : Int))) c]; rfl
theorem rowsN_succ (s : List Int) (n : Int) (i : Nat) : rowsN s n (i + 1) = rowsN s n i ++ rowsA s (i : Int) (n - 1).toNat := by
  unfold rowsN
  rw [List.range_succ, List.flatMap_append]
  simp
theorem mem_rowsA {s : List Int} {a : Int} {m : Nat} {r : Rw3} (h : r ∈ rowsA s a m) : r.1 = a ∧ (1 ≤ r.2.1 ∧ r.2.1 < 1 + (m : Int)) ∧ r.1 ≠ r.2.1 ∧ 0 ≤ r.2.2 := by
  obtain ⟨j, hj, rfl⟩ := List.mem_map.mp h
  obtain ⟨h1, h2⟩ := List.mem_filter.mp hj
  have h1' := List.mem_range.mp h1
  have h2' : rowT s a (1 + (j : Int)) = true := h2
  unfold rowT at h2'
  rw [Bool.and_eq_true] at h2'
  have ne : a ≠ 1 + (j : Int) := by simpa using h2'.1
  exact ⟨rfl, ⟨by show 1 ≤ 1 + (j : Int); omega, by show 1 + (j : Int) < 1 + (m : Int); omega⟩, ne, Int.emod_nonneg _ (by have := mostV_pos s; omega)⟩
theorem rowsA_srt (s : List Int) (a : Int) (m : Nat) : (rowsA s a m).Pairwise lt2 := by
  unfold rowsA
  rw [List.pairwise_map]
  refine (List.Pairwise.sublist List.filter_sublist List.pairwise_lt_range).imp fun {i j} h => ?_
  exact .inr ⟨rfl, by show 1 + (i : Int) < 1 + (j : Int); omega⟩
theorem rowsN_srt (s : List Int) (n : Int) : ∀ i, (rowsN s n i).Pairwise lt2 ∧ ∀ r ∈ rowsN s n i, r.1 < (i : Int)
  | 0 => ⟨List.Pairwise.nil, fun r h => nomatch h⟩
  | i + 1 => by
    obtain ⟨h1, h2⟩ := rowsN_srt s n i
    rw [rowsN_succ]
    refine ⟨List.pairwise_append.mpr ⟨h1, rowsA_srt _ _ _, fun a ha b hb => .inl ?_⟩, fun r hr => ?_⟩
    · have := h2 a ha
      have := (mem_rowsA hb).1
      omega
    · rcases List.mem_append.mp hr with hr | hr
      · have := h2 r hr; omega
      · have := (mem_rowsA hr).1; omega
theorem rowsN_rg {s : List Int} {n : Int} {i : Nat} {r : Rw3} (h : r ∈ rowsN s n i) : (0 ≤ r.1 ∧ r.1 < (i : Int)) ∧ (1 ≤ r.2.1 ∧ r.2.1 < 1 + ((n - 1).toNat : Int)) ∧ r.1 ≠ r.2.1 ∧ 0 ≤ r.2.2 := by
  obtain ⟨a, ha, hr⟩ := List.mem_flatMap.mp h
  have := List.mem_range.mp ha
  have q := mem_rowsA hr
  exact ⟨by omega, q.2.1, q.2.2⟩
theorem rowsN_len (s : List Int) (n : Int) : ∀ i, (rowsN s n i).length ≤ i * (n - 1).toNat
  | 0 => Nat.zero_le _
  | i + 1 => by
    rw [rowsN_succ, List.length_append, Nat.succ_mul]
    have := rowsN_len s n i
    have h : (rowsA s (i : Int) (n - 1).toNat).length ≤ (n - 1).toNat := by
      unfold rowsA
      rw [List.length_map]
      exact Nat.le_trans (List.length_filter_le _ _) (by rw [List.length_range]; exact Nat.le_refl _)
    omega
theorem goodR_drawn {n : Int} (h1 : 1 ≤ n) (h2 : n ≤ 12) (s : List Int) : GoodR n (rowsV s n) where
  n1 := h1
  n2 := h2
  srt := (rowsN_srt s n n.toNat).1
  rg := fun r hr => by
    have q := rowsN_rg hr
    omega
  c0 := fun r hr => (rowsN_rg hr).2.2.2
/-! ### families, groups, as the laws look at them -/
theorem par_get {fam : Fml} {t : Int} {a : Int} (h1 : 1 ≤ t) (e : fam[t.toNat]? = some (some a)) : HW.par fam t = a := by
  unfold HW.par; rw [if_neg (by omega), e]; rfl
/-- a group, as it is looked at: none, then each more than the last one -/
def grpB (n : Int) (g : List Int) : Bool := (!g.isEmpty) && (g.zipIdx.all fun p => decide ((if p.2 = 0 then 0 else (g[p.2 - 1]?).getD 0) < p.1) && decide (p.1 < n))
theorem enters_eq {a b : Int} {g : List Int} : (decide (b ∈ g) && !decide (a ∈ g)) = HW.ent a b g := rfl
theorem uq_same {rows : List Rw3} (u : Uq rows) {o r : Rw3} (h1 : o ∈ rows) (h2 : r ∈ rows) (d : o.1 = r.1) (c : o.2.1 = r.2.1) : o = r := by
  obtain ⟨a, b, k⟩ := o
  obtain ⟨a', b', k'⟩ := r
  cases d; cases c
  have e1 := (getP_as u).mpr h1
  have e2 := (getP_as u).mpr h2
  rw [e1] at e2
  cases e2; rfl
end HG

/-! a law's end -/
namespace HG
open PySem PySem.Spec PyProof.Rows L2 Evl HW
theorem walk_ofG {l : PySem.W.OpenLaw} {n k : Nat} {q : Program} {loose : List Str} {XP : (Str → Option Value) → Heap → Prop} {YP : World → Heap → Prop} {d : DefRec} {x : Str}
    (hn : l.most = some n) (hn2 : n ≤ sizeLine) (hdf : d.params.defaults = []) (hr : Room k callerA)
    (F : ∀ (w : World) (mg : Str → Option Value) (fa : Addr) (h : Heap), YP w h → h.Ns mainGlobals mg → mg d.name = some (.ref fa) →
      ∃ (K : PySem.W.Frag) (fd : FuncData) (sp : Sp), K.In h ∧ (∀ (s : Shared) (u : Value), BindsTo s fd ⟨[u], []⟩ [(x, u)]) ∧
        (∀ (H : Hp) (a : Addr) (ns : List Int), ns.length ≤ n → Only H → SqL K H a (ns.map V.int) → sp [.ref a] H (fun v _ => v = .bl true) fun _ _ _ => False) ∧
        ∀ base : Heap, K.In base → base.Ns mainGlobals mg → FnOk l.prog w K mg base (L2.CX l.prog w) k fa fd [x] sp) :
    PySem.W.WalkO q loose XP YP l.row.toRowW d [] (fun f vs => PySem.call f vs) := by
  refine Att.attach_call hn hdf fun w s₀ s₁ mg mb fa o pm cd doc a vs ns G Y ho hd hcd hmg hobj hints hlen hg => ?_
  obtain ⟨K, fd, sp, KX, hb, hsp, hF⟩ := F w mg fa _ Y G.T.g hmg
  exact law_call KX G.T.g G.T.b G.T.builtins G.T.nolimit hg hobj hints (Nat.le_trans hlen hn2) hr hF hb (fun H hO hS => hsp H a ns hlen hO hS) fun H e s' h => by
    obtain ⟨_, _, _, _, _, _, _, _, _, _, _, _, hE⟩ := h
    exact hE
theorem FunX.binds {K : PySem.W.Frag} {x qual : Str} {st : Stmt} {f : Addr} {fd : FuncData} {ps : List Str} (F : FunX K x qual st f fd)
    (h : ∀ (kV doc pm : Value) (an : Option Addr) (cdv ct : Value) (us : List Value), us.length = ps.length → bindArgs (PySem.W.fnOf x qual (defArgs st) (defBody st) (defScope st) .none kV doc pm an cdv ct) ⟨us, []⟩ = pure (ps.zip us)) : Binds K fd ps [] := by
  obtain ⟨oc, od, kV, doc, pm, an, cdv, ct, osl, rfl, lk, hcd⟩ := F.ex
  exact .all (h kV doc pm an cdv ct)
theorem FunX.bindsA {K : PySem.W.Frag} {x qual : Str} {st : Stmt} {f : Addr} {fd : FuncData} {p : Str} (F : FunX K x qual st f fd)
    (h : ∀ (kV doc pm : Value) (an : Option Addr) (cdv ct : Value) (u : Value), bindArgs (PySem.W.fnOf x qual (defArgs st) (defBody st) (defScope st) .none kV doc pm an cdv ct) ⟨[u], []⟩ = pure [(p, u)]) : ∀ (s : Shared) (u : Value), BindsTo s fd ⟨[u], []⟩ [(p, u)] := by
  obtain ⟨oc, od, kV, doc, pm, an, cdv, ct, osl, rfl, lk, hcd⟩ := F.ex
  exact fun s u => .of_eq (h kV doc pm an cdv ct u)
theorem funx_of {K : PySem.W.Frag} {x qual : Str} {st : Stmt} {f : Addr}
    (e : ∃ oc od osl kV doc pm an cdv ct, K.lookup f = some ⟨oc, od, .func (PySem.W.fnOf x qual (defArgs st) (defBody st) (defScope st) .none kV doc pm an cdv ct), osl⟩ ∧ PySem.W.codeIn K cdv qual = true) : ∃ fd, FunX K x qual st f fd := by
  obtain ⟨oc, od, osl, kV, doc, pm, an, cdv, ct, h1, h2⟩ := e
  exact ⟨_, ⟨⟨oc, od, kV, doc, pm, an, cdv, ct, osl, rfl, h1, h2⟩⟩⟩
theorem excF_of {K : PySem.W.Frag} {h : Heap} {mg : Str → Option Value} {x : Str} (X : K.In h) (G : h.Ns mainGlobals mg) (c1 : (He.Fa.glo x).ok K = true) (c2 : (He.Fa.exc x).ok K = true) : ExcF K mg x := by
  obtain ⟨a, b, c, d⟩ := He.exc_ok c2
  exact ⟨He.glo_ok X G c1, a, b, c, d⟩
theorem gint_of {K : PySem.W.Frag} {h : Heap} {mg : Str → Option Value} {x : Str} {i : Int} (X : K.In h) (G : h.Ns mainGlobals mg) (c : (He.Fa.int x i).ok K = true) : ∃ u, mg x = some u ∧ RelV (.int i) u := by
  obtain ⟨t, e⟩ := He.int_ok X G c
  exact ⟨_, e, t, rfl⟩
theorem gstr_of {K : PySem.W.Frag} {h : Heap} {mg : Str → Option Value} {x z : Str} (X : K.In h) (G : h.Ns mainGlobals mg) (c : (He.Fa.str x z).ok K = true) : ∃ u, mg x = some u ∧ RelV (.str z) u := by
  obtain ⟨t, e⟩ := He.str_ok X G c
  exact ⟨_, e, t, rfl⟩
/-- a law's promise, of a script that stands anywhere -/
theorem law_sp {K : PySem.W.Frag} {n : Nat} (H : Hp) (a : Addr) (ns : List Int) (hl : ns.length ≤ n) (hS : SqL K H a (ns.map V.int)) : Pm (fun s : List Int => [.is (aScr K) s]) (fun _ => .ret aB true) (fun s => s.length ≤ n) [.ref a] H (fun v _ => v = .bl true) fun _ _ _ => False := by
  refine ⟨ns, H, hl, Ex.refl _, ⟨⟨.ref a, rfl, a, rfl, hS⟩, trivial⟩, ?_⟩
  intro v H' r
  obtain ⟨G, _, _, _, h⟩ := r.ex
  exact h
end HG

/-! sorted of threes of whole numbers, of any length -/
namespace HG
open PySem PySem.Spec PyProof.Rows
section
open Srt SrtO
/-- before: by the first, the second, the third -/
def lex3 (p q : Int × Int × Int) : Bool := if p.1 = q.1 then (if p.2.1 = q.2.1 then decide (p.2.2 < q.2.2) else decide (p.2.1 < q.2.1)) else decide (p.1 < q.1)
theorem lex3_iff {p q : Int × Int × Int} : lex3 p q = true ↔ p.1 < q.1 ∨ (p.1 = q.1 ∧ (p.2.1 < q.2.1 ∨ (p.2.1 = q.2.1 ∧ p.2.2 < q.2.2))) := by
  unfold lex3
  by_cases e : p.1 = q.1
  · rw [if_pos e]
    by_cases e2 : p.2.1 = q.2.1
    · rw [if_pos e2, decide_eq_true_eq]; omega
    · rw [if_neg e2, decide_eq_true_eq]; omega
  · rw [if_neg e, decide_eq_true_eq]; omega
theorem lex3_no {p q : Int × Int × Int} : lex3 p q = false ↔ ¬ (p.1 < q.1 ∨ (p.1 = q.1 ∧ (p.2.1 < q.2.1 ∨ (p.2.1 = q.2.1 ∧ p.2.2 < q.2.2)))) := by
  rw [← lex3_iff, Bool.not_eq_true]
theorem swo3 {α : Type} (k : α → Int × Int × Int) : Swo fun v u => lex3 (k v) (k u) := ⟨fun x y h => lex3_no.mpr (by have := lex3_iff.mp h; omega), fun x y z h1 h2 => lex3_no.mpr (by have := lex3_no.mp h1; have := lex3_no.mp h2; omega)⟩
def Tri (h : Heap) (v : Value) (x : Int × Int × Int) : Prop := ∃ (a : Addr) (ob : Obj) (t1 t2 t3 : Tok) (n : Nat), v = .ref a ∧ h.get? a = some ob ∧ ob.cls = .type "tuple" ∧ ob.data = .seq #[.int x.1 t1, .int x.2.1 t2, .int x.2.2 t3] n
theorem Tri.keep {h g : Heap} {v : Value} {x : Int × Int × Int} (p : Tri h v x) (k : ∀ b o, h.get? b = some o → o.cls = .type "tuple" → g.get? b = some o) : Tri g v x := by
  obtain ⟨a, ob, t1, t2, t3, n, e1, e2, e3, e4⟩ := p
  exact ⟨a, ob, t1, t2, t3, n, e1, k _ _ e2 e3, e3, e4⟩
theorem tri_firsts {h : Heap} {k : Value → Int × Int × Int} : ∀ {vs : List Value}, (∀ v ∈ vs, Tri h v (k v)) → ∃ l : List Value, PySem.W.KatTups h vs l ∧ l.length = vs.length ∧ ∀ f ∈ l, ∃ x t, f = Value.int x t
  | [], _ => ⟨[], PySem.W.KatTups.nil, rfl, fun _ m => nomatch m⟩
  | v :: vs, hv => by
    obtain ⟨l, l1, l2, l3⟩ := tri_firsts (vs := vs) fun u m => hv u (List.mem_cons_of_mem _ m)
    obtain ⟨a, ob, t1, t2, t3, n, e1, e2, e3, e4⟩ := hv v List.mem_cons_self
    cases e1
    refine ⟨.int _ t1 :: l, PySem.W.KatTups.cons e2 e3 e4 rfl l1, congrArg (· + 1) l2, fun f m => ?_⟩
    cases m with
    | head => exact ⟨_, t1, rfl⟩
    | tail _ m => exact l3 f m
variable {prog : Program} {w : World} {A : Around} {E : Value → Shared → Prop} {s : Shared}
theorem tri_cmp {vs : List Value} {k : Value → Int × Int × Int} (hv : ∀ v ∈ vs, Tri s.heap v (k v)) : Cmp prog w A s (tuples' true) (fun p => p.1 ∈ vs) (SrtO.lt2 fun v u => lex3 (k v) (k u)) := by
  intro p q m1 m2
  have g1 := hv _ m1
  have g2 := hv _ m2
  show wpAny (model prog w) A (keyLt' (tuples' true) p.1 q.1) (fun r s' => s' = s ∧ r = lex3 (k p.1) (k q.1)) (fun _ _ => False) s
  generalize k p.1 = x at g1 ⊢
  generalize k q.1 = y at g2 ⊢
  obtain ⟨x1, x2, x3⟩ := x
  obtain ⟨y1, y2, y3⟩ := y
  obtain ⟨a, ob, t1, t2, t3, n, e1, e2, e3, e4⟩ := g1
  obtain ⟨b, oc, u1, u2, u3, m, f1, f2, f3, f4⟩ := g2
  rw [e1, f1]
  unfold lex3
  refine PySem.W.kat_lt e2 e4 f2 f4 ?_
  show PySem.W.KatLex prog w A true (decide (3 < 3)) _ [(.int x1 t1, .int y1 u1), (.int x2 t2, .int y2 u2), (.int x3 t3, .int y3 u3)] 0 s
  refine PySem.W.kat_cons (SeqAt.EqAt.int_int x1 t1 y1 u1 prog w _ _ ?_)
  refine PySem.W.kat_go (fun c1 => ?_) (fun c1 => ?_)
  · have d1 : x1 = y1 := by simpa using c1
    rw [if_pos (show (x1, x2, x3).1 = (y1, y2, y3).1 from d1)]
    refine PySem.W.kat_yes (PySem.W.kat_cons (SeqAt.EqAt.int_int x2 t2 y2 u2 prog w _ _ ?_))
    refine PySem.W.kat_go (fun c2 => ?_) (fun c2 => ?_)
    · have d2 : x2 = y2 := by simpa using c2
      rw [if_pos (show (x1, x2, x3).2.1 = (y1, y2, y3).2.1 from d2)]
      refine PySem.W.kat_yes (PySem.W.kat_cons (SeqAt.EqAt.int_int x3 t3 y3 u3 prog w _ _ ?_))
      refine PySem.W.kat_go (fun c3 => ?_) (fun c3 => ?_)
      · have d3 : x3 = y3 := by simpa using c3
        exact PySem.W.kat_yes (PySem.W.kat_nil ⟨rfl, (decide_eq_false (by show ¬ x3 < y3; omega)).symm⟩)
      · exact PySem.W.kat_no (PySem.W.kat_one _ _ (PyProof.Rows.lt_int ⟨rfl, rfl⟩))
    · have d2 : ¬ x2 = y2 := by simpa using c2
      rw [if_neg (show ¬ (x1, x2, x3).2.1 = (y1, y2, y3).2.1 from d2)]
      exact PySem.W.kat_no (PySem.W.kat_one _ _ (PyProof.Rows.lt_int ⟨rfl, rfl⟩))
  · have d1 : ¬ x1 = y1 := by simpa using c1
    rw [if_neg (show ¬ (x1, x2, x3).1 = (y1, y2, y3).1 from d1)]
    exact PySem.W.kat_no (oneLt_int ⟨rfl, rfl⟩)
theorem tri_sortable {a : Addr} {vs : List Value} {k : Value → Int × Int × Int} (h0 : 0 < vs.length) (hv : ∀ v ∈ vs, Tri s.heap v (k v)) (ha : ∀ o, s.heap.get? a = some o → ¬ o.cls = .type "tuple") : SortableO prog w A s a vs fun v u => lex3 (k v) (k u) := by
  intro g keep
  have hg : ∀ v ∈ vs, Tri g v (k v) := fun v m => (hv v m).keep fun b o e c => keep b o (fun z => by subst z; exact ha o e c) e
  obtain ⟨l, l1, l2, l3⟩ := tri_firsts hg
  refine ⟨tuples' true, fun Q E q => ?_, tri_cmp hg⟩
  refine PySem.W.kat_kind (T := .type "int") l1 (by omega) (fun f m => ?_) (by rfl) ?_
  · obtain ⟨x, t, rfl⟩ := l3 f m
    exact PySem.W.Looks.now
  · rw [show (Value.type "int" != Value.type "tuple") = true by first | decide +kernel | rfl | decide]
    exact q
theorem sorted_tri {l : Addr} {vs : List Value} {k : Value → Int × Int × Int} {Q : Value → Shared → Prop} (hl : s.heap.IsList l vs.toArray) (hz : vs.length ≤ sizeLine) (hv : ∀ v ∈ vs, Tri s.heap v (k v))
    (h : ∀ (g : Heap) (d : Addr) (out : List Value), Srtd (fun v u => lex3 (k v) (k u)) out → Stb (fun v u => lex3 (k v) (k u)) out vs → (∀ b o, s.heap.get? b = some o → g.get? b = some o) → s.heap.objs.size ≤ d → (∃ n, g.get? d = some (seqObj "list" out.toArray n)) → Q (.ref d) { s with heap := g }) :
    wpAny (model prog w) A (call (.builtin "sorted") [.ref l]) Q E s := by
  refine sorted_ord (swo3 k) hl hz (fun h2 g a ha kk => ?_) fun out o1 o2 => ?_
  · refine tri_sortable (s := { s with heap := g }) (by omega) (fun v m => (hv v m).keep fun b o e _ => (kk b o e).2) fun o e => ?_
    have z : some o = some (seqObj "list" vs.toArray 0) := e.symm.trans ha
    cases z
    exact fun c => absurd (Value.type.inj c) (by decide)
  · exact h _ _ out o1 o2 (fun b o e => sortedAll_old e) (Nat.le_succ _) (sortedAll_at s.heap vs out.toArray)
end
open L2 Evl HW
/-- sorted(xs), xs a list of threes (k says which): a new list of the same ones, none before an earlier one -/
def rSorted3 (K : PySem.W.Frag) : List V → Hp → VK → Prop := fun vs H Q => ∃ (a : Addr) (xs : List V) (k : V → Int × Int × Int), vs = [V.ref a] ∧ SqL K H a xs ∧ (∀ x ∈ xs, ∃ t, x = V.ref t ∧ H t = some (.tup [.int (k x).1, .int (k x).2.1, .int (k x).2.2])) ∧
  ∀ ys p, ys.Pairwise (fun x y => lex3 (k y) (k x) = false) → ys.Perm xs → H p = none → Q (.ref p) (upd H p (.lst ys))
theorem cr_sorted3 {X : Cx} : CallR X (.builtin "sorted") (rSorted3 X.K) := by
  intro pins s σ H vs us Q I r h
  obtain ⟨a, xs, k, rfl, hs, hx, q⟩ := h
  obtain ⟨its, rv, hl, hz⟩ := I.list hs
  obtain ⟨u, rfl, ru⟩ := vals1 r
  cases (show u = Value.ref a from ru)
  obtain ⟨e1, e2⟩ := refs_back rv fun x m => (hx x m).imp fun t z => z.1
  refine sorted_tri (k := fun u => k (backV u)) hl.isList (by rw [← rv.length]; exact hz) (fun v hv => ?_) fun g d out o1 o2 kp hd hn => ?_
  · obtain ⟨t, rfl⟩ := e2 v hv
    obtain ⟨t', e, ht⟩ := hx (V.ref t) (by rw [e1]; exact List.mem_map.mpr ⟨_, hv, rfl⟩)
    cases e
    obtain ⟨_, its2, r2, o, ho, hc, n, dd⟩ := I.hok _ _ ht
    obtain ⟨t1, t2, t3, rfl⟩ : ∃ t1 t2 t3, its2 = [Value.int (k (V.ref t)).1 t1, Value.int (k (V.ref t)).2.1 t2, Value.int (k (V.ref t)).2.2 t3] := by
      cases r2 with
      | cons ri r3 => cases r3 with
        | cons rj r4 => cases r4 with
          | cons rk r5 =>
            cases r5
            obtain ⟨t1, rfl⟩ := ri
            obtain ⟨t2, rfl⟩ := rj
            obtain ⟨t3, rfl⟩ := rk
            exact ⟨t1, t2, t3, rfl⟩
    exact ⟨t, o, t1, t2, t3, n, rfl, ho, hc, dd⟩
  · have all : ∀ u ∈ out, ∃ a, u = Value.ref a := fun u m => e2 u (o2.perm.mem_iff.mp m)
    obtain ⟨n, hn⟩ := hn
    have pm : (out.map backV).Perm xs := by
      rw [e1]
      exact o2.perm.map backV
    refine ⟨.ref d, upd H d (.lst (out.map backV)), I.laid (t' := s.toks) kp hd ⟨?_, out, n, vals_back all, hn⟩, rfl, q _ d (List.pairwise_map.mpr o1) pm (I.hok.fresh hd)⟩
    rw [pm.length_eq]
    exact hz
theorem qb_sorted3 {X : Cx} {K : PySem.W.Frag} (hK : X.K = K) : CallR X (.builtin "sorted") (rSorted3 K) := hK ▸ cr_sorted3
end HG

/-! sorted rows; what is looked at as it is now -/
namespace HG
open PySem PyProof.Rows L2 Evl HW
section
variable {α β γ : Type} {K : PySem.W.Frag} {C : Addr} {c : Cw} {Γ Δ : List Spec} {ta tb te tl td : TE} {t u : TT} {τ : Ty α} {θ : Ty β} {ρ : Ty γ} {x : α} {y : β} {z : γ} {D : Ends} {tu tw tz ts : TS}
def triAt (H : Hp) (v : V) : Rw3 := match v with
  | .ref t => (match H t with
    | some (.tup [.int i, .int j, .int k]) => (i, j, k)
    | _ => (0, 0, 0))
  | _ => (0, 0, 0)
theorem triAt_of {F H : Hp} (e : Ex F H) {v : V} {r : Rw3} (h : aRow.R r F v) : triAt H v = r ∧ ∃ t, v = .ref t ∧ H t = some (.tup [.int r.1, .int r.2.1, .int r.2.2]) := by
  obtain ⟨p, a, b, d, rfl, h2, h3, h4, h5⟩ := h
  cases (show a = V.int r.1 from h3)
  cases (show b = V.int r.2.1 from h4)
  cases (show d = V.int r.2.2 from h5)
  have h6 := e _ _ h2
  exact ⟨by unfold triAt; simp only [h6], p, rfl, h6⟩
theorem pr_all {S : V → α → Prop} (f : V → α) : ∀ l : List V, (∀ v ∈ l, S v (f v)) → Paired S l (l.map f)
  | [], _ => .nil
  | v :: l, h => .cons (h v List.mem_cons_self) (pr_all f l fun u m => h u (List.mem_cons_of_mem _ m))
theorem pr_mapf {S : V → α → Prop} {f : V → α} (hf : ∀ v x, S v x → f v = x) : ∀ {l : List V} {m : List α}, Paired S l m → l.map f = m
  | _, _, .nil => rfl
  | _, _, .cons r t => by rw [List.map_cons, hf _ _ r, pr_mapf hf t]
theorem pr_mem {S : V → α → Prop} : ∀ {l : List V} {m : List α} {v : V}, Paired S l m → v ∈ l → ∃ x ∈ m, S v x
  | _, _, _, .cons r t, h => by
    cases h with
    | head => exact ⟨_, List.mem_cons_self, r⟩
    | tail _ h =>
      obtain ⟨x, m, hx⟩ := pr_mem t h
      exact ⟨x, List.mem_cons_of_mem _ m, hx⟩
theorem en_sort3 {rows : List Rw3} (ha : EL K c Γ ta aRow rows) (uq : Uq rows) : EN c Γ (tCB (rSorted3 K) (tCons ta tNil)) (oL aRow) (rowsOf (asKvs rows)) := fun σ F Ms H w Q q =>
  ha σ F Ms H w _ fun a us F1 H1 s1 h1 i1 => ⟨a, us, triAt H1, rfl, h1, fun x hx => by
    obtain ⟨r, _, hr⟩ := pr_mem i1 hx
    obtain ⟨e1, t, e2, e3⟩ := triAt_of s1.fh hr
    rw [e1]
    exact ⟨t, e2, e3⟩, fun ys p hs hp hn => by
    have em : us.map (triAt H1) = rows   := pr_mapf (S := fun (v : V) (x : Rw3) => aRow.R x F1 v) (fun v x r => (triAt_of (v := v) s1.fh r).1) i1
    have pm : (ys.map (triAt H1)).Perm rows := em ▸ hp.map _
    have it : Its aRow F1 ys (ys.map (triAt H1)) := pr_all _ ys fun v hv => by
      obtain ⟨r, _, hr⟩ := pr_mem i1 (hp.mem_iff.mp hv)
      rw [(triAt_of s1.fh hr).1]
      exact hr
    have uq2 : Uq (ys.map (triAt H1)) := (pm.map _).symm.nodup uq
    have lt : (ys.map (triAt H1)).Pairwise lt2 := by
      rw [List.pairwise_map]
      have nd2 : ys.Pairwise fun a b => ((triAt H1 a).1, (triAt H1 a).2.1) ≠ ((triAt H1 b).1, (triAt H1 b).2.1) := by
        have z : ((ys.map (triAt H1)).map fun r => (r.1, r.2.1)).Pairwise (· ≠ ·) := uq2
        rw [List.map_map, List.pairwise_map] at z
        exact z
      refine (hs.and nd2).imp fun {a b} h => ?_
      have h1 := lex3_no.mp h.1
      have h2 : ¬ ((triAt H1 a).1 = (triAt H1 b).1 ∧ (triAt H1 a).2.1 = (triAt H1 b).2.1) := fun q => h.2 (Prod.ext q.1 q.2)
      show (triAt H1 a).1 < (triAt H1 b).1 ∨ ((triAt H1 a).1 = (triAt H1 b).1 ∧ (triAt H1 a).2.1 < (triAt H1 b).2.1)
      omega
    have e : ys.map (triAt H1) = rowsOf (asKvs rows) := by
      refine lt2_uniq lt (rowsOf_lt (asKvs_nd uq)) (pm.trans ?_)
      have := (rowsOf_perm (asKvs rows)).symm
      unfold asKvs at this
      rw [List.map_map] at this
      refine List.Perm.trans (List.Perm.of_eq ?_) this
      exact (List.map_id' rows).symm
    rw [e] at it
    obtain ⟨s2, m, n⟩ := en_new (o := .lst ys) s1.fh hn
    exact q _ F1 _ _ (s1.trans s2) m (en_step s1 n) ⟨p, _, rfl, rfl, it⟩⟩
/-! ### what is looked at as it is now -/
def EGH (c : Cw) (Γ : List Spec) (te : TE) (τ : Ty α) (x : α) : Prop := ∀ σ F Ms H, Wd c Γ σ F Ms H → ∀ Q : VK, (∀ v F' H', Stp F H F' H' → τ.R x H' v → Q v H') → te σ H Q
theorem EG.now (h : EG c Γ te τ x) : EGH c Γ te τ x := fun σ F Ms H w Q q => h σ F Ms H w Q fun v F' H' s r => q v F' H' s (τ.up r s.fh)
theorem egh_own {κ : Ob α} {i : Nat} (h : Γ[i]? = some (.own κ x)) : EGH c Γ (tVar i) κ.ty x := fun σ F Ms H w Q q => by
  obtain ⟨v, h1, h2⟩ := w.ok i _ h
  exact ⟨v, h1, q v F H (Stp.refl w.fx) (κ.fz h2 w.fx (w.mx i))⟩
def EAH (c : Cw) (Γ : List Spec) (ta : TA) (Ss : List Spec) : Prop := ∀ σ F Ms H, Wd c Γ σ F Ms H → ∀ Q : List V → Hp → Prop, (∀ vs F' H', Stp F H F' H' → AOk H' H' Ss vs → Q vs H') → ta σ H Q
theorem EA.now {tt : TA} {Ss : List Spec} (h : EA c Γ tt Ss) : EAH c Γ tt Ss := fun σ F Ms H w Q q => h σ F Ms H w Q fun vs F' H' s r => q vs F' H' s (r.up s.fh (Ex.refl _))
theorem eah_nil : EAH c Γ tNil [] := ea_nil.now
theorem eah_is {tr : TA} {Ss : List Spec} (ha : EGH c Γ ta τ x) (hr : EAH c Γ tr Ss) : EAH c Γ (tCons ta tr) (.is τ x :: Ss) := fun σ F Ms H w Q q =>
  ha σ F Ms H w _ fun v F1 H1 s1 r1 => hr σ F1 Ms H1 (w.step s1) _ fun vs F2 H2 s2 r2 => q _ F2 H2 (s1.trans s2) ⟨⟨v, rfl, τ.up r1 s2.h⟩, r2⟩
/-- a plain value -/
def Flat (τ : Ty α) : Prop := ∀ x F G v, τ.R x F v → τ.R x G v
theorem flat_M {f : α → V} : Flat (aM f) := fun _ _ _ _ h => h
theorem eg_callH {ι : Type} {Γp : ι → List Spec} {o : ι → Out} {pre : ι → Prop} {E : XK} {tt : TA} (fl : Flat τ) (a : ι) (ha : EAH c Γ tt (Γp a)) (hp : pre a) (ho : o a = .ret τ x) : EG c Γ (tCall (Pm Γp o pre) [] E tt) τ x := fun σ F Ms H w Q q =>
  ha σ F Ms H w _ fun vs F1 H1 s1 r1 => by
    refine ⟨a, H1, hp, Ex.refl _, by rw [List.append_nil]; exact r1, ?_⟩
    rw [ho]
    intro v H' r
    obtain ⟨G, _, _, _, h⟩ := r.ex
    exact q v F1 H' (s1.trans (Stp.heap s1.fh r.fr)) (fl _ _ _ _ h)
theorem eg_eqH [DecidableEq α] {x y : α} {f : α → PyData} {d : Nat} (D : Dt τ f d) (ha : EGH c Γ ta τ x) (hb : EGH c Γ tb τ y) (hd : d ≤ 64 := by decide) : EG c Γ (tOp (rEqD K) ta tb) aB (decide (x = y)) := fun σ F Ms H w Q q =>
  ha σ F Ms H w _ fun u F1 H1 s1 r1 => hb σ F1 Ms H1 (w.step s1) _ fun v F2 H2 s2 r2 => ⟨f x, f y, D.dp (τ.up r1 s2.h) (Ex.refl _), D.dp r2 (Ex.refl _), D.shaped hd x, D.shaped hd y, by rw [D.eqv]; exact q _ F2 H2 (s1.trans s2) rfl⟩
theorem eg_neH [DecidableEq α] {x y : α} {f : α → PyData} {d : Nat} (D : Dt τ f d) (ha : EGH c Γ ta τ x) (hb : EGH c Γ tb τ y) (hd : d ≤ 64 := by decide) : EG c Γ (tOp (rNeD K) ta tb) aB (!decide (x = y)) := fun σ F Ms H w Q q =>
  ha σ F Ms H w _ fun u F1 H1 s1 r1 => hb σ F1 Ms H1 (w.step s1) _ fun v F2 H2 s2 r2 => ⟨f x, f y, D.dp (τ.up r1 s2.h) (Ex.refl _), D.dp r2 (Ex.refl _), D.shaped hd x, D.shaped hd y, by rw [D.eqv]; exact q _ F2 H2 (s1.trans s2) rfl⟩
theorem eg_isiH {n tn : String} {b : Bool} (k : Kd τ tn) (ha : EGH c Γ ta τ x) (hk : ∀ K, PySem.W.kitOne K (.type tn) (.type n) = some b) : EG c Γ (tCB (rIsi K) (tCons ta (tCons (tC (.ty n)) tNil))) aB b := fun σ F Ms H w Q q =>
  ha σ F Ms H w _ fun v F1 H1 s1 r1 => ⟨v, .ty n, .type tn, .type n, b, rfl, .ty n, k _ _ _ _ _ r1 (Ex.refl _), hk _, q _ F1 H1 s1 rfl⟩
theorem eg_lenH {l : List α} (ha : EGH c Γ ta (aL τ) l) : EG c Γ (tCB (rLenS K) (tCons ta tNil)) aI (l.length : Int) := fun σ F Ms H w Q q =>
  ha σ F Ms H w _ fun v F1 H1 s1 ⟨p, us, e, r, i⟩ => by
    subst e
    exact ⟨p, us, rfl, .inl (.inl (.inl r)), by rw [pr_len i]; exact q _ F1 H1 s1 rfl⟩
theorem egh_ixL {l : List α} {i : Int} (ha : EGH c Γ ta (aL τ) l) (hb : EG c Γ tb aI i) (hi : atI l i = some x) : EGH c Γ (tOp (rIxL K) ta tb) τ x := fun σ F Ms H w Q q =>
  ha σ F Ms H w _ fun v F1 H1 s1 ⟨p, us, e, r, it⟩ => hb σ F1 Ms H1 (w.step s1) _ fun v2 F2 H2 s2 r2 => by
    subst e
    obtain ⟨v', h1, h2⟩ := at_pr it hi
    exact ⟨p, us, i, v', rfl, r2, .inl (.inl (s2.h _ _ r)), h1, q v' F2 H2 (s1.trans s2) (τ.up h2 s2.h)⟩
/-! ### a new thing of one's own, all of it -/
def oDeep (τ : Ty α) : Ob α where
  S := fun x F v M => τ.R x M v
  up := fun h e => h
  ty := τ
  fz := fun h e m => τ.up h m
/-- of any look -/
def oJunk : Ob Unit where
  S := fun _ _ _ _ => True
  up := fun h _ => h
  ty := ⟨fun _ _ _ => True, fun h _ => h⟩
  fz := fun _ _ _ => trivial
def ENP (c : Cw) (Γ : List Spec) (te : TE) (κ : Ob α) (P : α → Prop) : Prop := ∀ σ F Ms H, Wd c Γ σ F Ms H → ∀ Q : VK,
  (∀ x v F' M H', P x → Stp F H F' H' → Ex M H' → (∀ a o, M a = some o → H a = none ∧ F' a = none) → κ.S x F' v M → Q v H') → te σ H Q
theorem t_newP {κ : Ob α} {P : α → Prop} {i : Nat} (h : ENP c Γ te κ P) (k : ∀ x, P x → Tr c (Γ.set i (.own κ x)) tz D) : Tr c Γ (tSeq (tAsg te (gName i)) tz) D := fun σ H ⟨F, Ms, w⟩ => h σ F Ms H w _ fun x v F' M H' p s m n r => k x p _ _ ⟨F', _, w.setNew s i m n r⟩
/-- what is handed in stands nowhere still -/
def EAZ (c : Cw) (Γ : List Spec) (ta : TA) (Ss : List Spec) : Prop := ∀ σ F Ms H, Wd c Γ σ F Ms H → ∀ Q : List V → Hp → Prop, (∀ vs F' H', Stp F H F' H' → AOk none0 H' Ss vs → Q vs H') → ta σ H Q
theorem eaz_nil : EAZ c Γ tNil [] := fun σ F Ms H w Q q => q [] F H (Stp.refl w.fx) trivial
theorem eaz_see {tr : TA} {Ss : List Spec} {b : Bk} (ha : EB C c Γ ta b) (hr : EAZ c Γ tr Ss) : EAZ c Γ (tCons ta tr) (.see (aBk C) b :: Ss) := fun σ F Ms H w Q q =>
  ha σ F Ms H w _ fun p d dx F1 H1 s1 B => hr σ F1 Ms H1 (w.step s1) _ fun vs F2 H2 s2 r2 => by
    have B2 := B.up s2.h
    exact q _ F2 H2 (s1.trans s2) ⟨⟨_, bkH C p d dx b, rfl, bkH_ex B2, p, d, dx, rfl, bkH_at B.ne⟩, r2⟩
theorem ex_n0 {H : Hp} : Ex none0 H := fun a o h => nomatch h
theorem enp_call {ι : Type} {Γp : ι → List Spec} {o : ι → Out} {pre : ι → Prop} {E : XK} {tt : TA} {P : α → Prop} (a : ι) (ha : EAZ c Γ tt (Γp a)) (hp : pre a) (ho : o a = .retP τ P) : ENP c Γ (tCall (Pm Γp o pre) [] E tt) (oDeep τ) P := fun σ F Ms H w Q q =>
  ha σ F Ms H w _ fun vs F1 H1 s1 r1 => by
    refine ⟨a, none0, hp, ex_n0, by rw [List.append_nil]; exact r1, ?_⟩
    rw [ho]
    intro x v H' p r
    obtain ⟨G, _, g2, g3, h⟩ := r.ex
    have fr : ∀ a o, G a = some o → H1 a = none := fun a o e => none_of fun u hu => g3 a o e rfl ⟨u, hu⟩
    exact q x v F1 G H' p (s1.trans (Stp.heap s1.fh r.fr)) g2 (fun a o e => ⟨fresh_back s1.h (fr a o e), none_of fun u hu => by have := s1.fh _ _ hu; rw [fr a o e] at this; cases this⟩) h
theorem end_call {ι : Type} {Γp : ι → List Spec} {o : ι → Out} {pre : ι → Prop} {E : XK} {tt : TA} {κ : Ob α} (a : ι) (ha : EAZ c Γ tt (Γp a)) (hp : pre a) (ho : o a = .new κ x) : EN c Γ (tCall (Pm Γp o pre) [] E tt) (oDeep κ.ty) x := fun σ F Ms H w Q q =>
  ha σ F Ms H w _ fun vs F1 H1 s1 r1 => by
    refine ⟨a, none0, hp, ex_n0, by rw [List.append_nil]; exact r1, ?_⟩
    rw [ho]
    intro v H' r
    obtain ⟨G, M, _, g2, g3, g4, g5, h⟩ := r.ex
    have fG : ∀ a o, G a = some o → H1 a = none := fun a o e => none_of fun u hu => g3 a o e rfl ⟨u, hu⟩
    have fM : ∀ a o, M a = some o → H1 a = none := fun a o e => none_of fun u hu => (g5 a o e).2 ⟨u, hu⟩
    have fr : ∀ a o, join G M a = some o → H1 a = none := fun a o e => (join_some e).elim (fM a o) fun z => fG a o z.2
    refine q v F1 (join G M) H' (s1.trans (Stp.heap s1.fh r.fr)) (fun a o e => (join_some e).elim (g4 a o) fun z => g2 a o z.2) (fun a o e => ⟨fresh_back s1.h (fr a o e), none_of fun u hu => by have := s1.fh _ _ hu; rw [fr a o e] at this; cases this⟩) (κ.fz h (ex_join_l fun a o e => (g5 a o e).1) ex_join_r)
end
end HG

/-! calls of what is told by a word; a book that grows -/
namespace HG
open PySem PyProof.Rows L2 Evl HW
section
variable {α β γ : Type} {K : PySem.W.Frag} {C : Addr} {c : Cw} {Γ Δ : List Spec} {ta tb te tl td : TE} {t u : TT} {τ : Ty α} {θ : Ty β} {ρ : Ty γ} {x : α} {y : β} {z : γ} {D : Ends} {tu tw tz ts : TS}
theorem eg_callP {ι : Type} {Γp : ι → List Spec} {o : ι → Out} {pre : ι → Prop} {E : XK} {tr : TA} {P : α → Prop} {Ss : List Spec} (a : α → ι) (h : EP c Γ ta τ P) (hr : EA c Γ tr Ss) (hΓ : ∀ x, P x → Γp (a x) = .is τ x :: Ss) (hp : ∀ x, P x → pre (a x)) (ho : ∀ x, P x → o (a x) = .ret ρ z) :
    EG c Γ (tCall (Pm Γp o pre) [] E (tCons ta tr)) ρ z := fun σ F Ms H w Q q =>
  h σ F Ms H w _ fun x v F1 H1 px s1 r1 => hr σ F1 Ms H1 (w.step s1) _ fun vs F2 H2 s2 r2 => by
    refine ⟨a x, F2, hp x px, s2.fh, ?_, ?_⟩
    · rw [List.append_nil, hΓ x px]
      exact ⟨⟨v, rfl, τ.up r1 s2.f⟩, r2⟩
    · rw [ho x px]
      intro v' H' r
      obtain ⟨G, s3, r3⟩ := r.stp
      exact q v' G H' ((s1.trans s2).trans s3) r3
end
/-! ### a hearing let -/
theorem mem_put {kvs : Kvs} {k : KP} {c : Int} {e : KP × Int} : e ∈ putP kvs k c ↔ e = (k, c) ∨ (e ∈ kvs ∧ e.1 ≠ k) := by
  unfold putP
  by_cases h : (kvs.any fun e => decide (e.1 = k)) = true
  · rw [if_pos h, List.mem_map]
    obtain ⟨d, hd, hk⟩ := List.any_eq_true.mp h
    have hk' : d.1 = k := of_decide_eq_true hk
    constructor
    · rintro ⟨a, ha, rfl⟩
      by_cases q : a.1 = k
      · rw [if_pos q]; exact .inl (by rw [q])
      · rw [if_neg q]; exact .inr ⟨ha, q⟩
    · rintro (rfl | ⟨h1, h2⟩)
      · exact ⟨d, hd, by rw [if_pos hk', hk']⟩
      · exact ⟨e, h1, if_neg h2⟩
  · rw [if_neg h, List.mem_append, List.mem_singleton]
    have no : ∀ a ∈ kvs, a.1 ≠ k := fun a ha q => h (List.any_eq_true.mpr ⟨a, ha, decide_eq_true q⟩)
    constructor
    · rintro (h1 | h1)
      · exact .inr ⟨h1, no e h1⟩
      · exact .inl h1
    · rintro (h1 | h1)
      · exact .inr h1
      · exact .inl h1.1
theorem put_keys {kvs : Kvs} {k : KP} {c : Int} (nd : (kvs.map (·.1)).Nodup) : ((putP kvs k c).map (·.1)).Nodup := by
  unfold putP
  by_cases h : (kvs.any fun e => decide (e.1 = k)) = true
  · rw [if_pos h, List.map_map]
    have : (((fun x : KP × Int => x.1) ∘ fun e : KP × Int => if e.1 = k then (e.1, c) else e)) = fun x => x.1 := funext fun e => by
      show (if e.1 = k then (e.1, c) else e).1 = e.1
      by_cases q : e.1 = k
      · rw [if_pos q]
      · rw [if_neg q]
    rw [this]; exact nd
  · rw [if_neg h, List.map_append, List.nodup_append]
    refine ⟨nd, by simp, fun a ha b hb e => ?_⟩
    obtain ⟨d, hd, rfl⟩ := List.mem_map.mp ha
    have hb' : b = k := by simpa using hb
    exact h (List.any_eq_true.mpr ⟨d, hd, decide_eq_true (e.trans hb')⟩)
theorem GoodB.put {n : Int} {kvs : Kvs} (G : GoodB n kvs) {a b c : Int} (ra : 0 ≤ a ∧ a < n) (rb : 1 ≤ b ∧ b < n) (ne : a ≠ b) (hc : 0 ≤ c) : GoodB n (putP kvs (a, b) c) where
  n1 := G.n1
  n2 := G.n2
  nd := put_keys G.nd
  rg := fun e he => by
    rcases mem_put.mp he with rfl | ⟨h, _⟩
    · exact ⟨ra, rb, ne⟩
    · exact G.rg e h
  c0 := fun e he => by
    rcases mem_put.mp he with rfl | ⟨h, _⟩
    · exact hc
    · exact G.c0 e h
theorem mem_rows_put {kvs : Kvs} {a b c : Int} {r : Rw3} : r ∈ rowsOf (putP kvs (a, b) c) ↔ r = (a, b, c) ∨ (r ∈ rowsOf kvs ∧ ¬ (r.1 = a ∧ r.2.1 = b)) := by
  rw [mem_rowsOf, mem_put, mem_rowsOf]
  constructor
  · rintro (h | ⟨h1, h2⟩)
    · cases h; exact .inl rfl
    · exact .inr ⟨h1, fun q => h2 (Prod.ext q.1 q.2)⟩
  · rintro (rfl | ⟨h1, h2⟩)
    · exact .inl rfl
    · exact .inr ⟨h1, fun q => h2 ⟨congrArg (·.1) q, congrArg (·.2) q⟩⟩
theorem has_put {kvs : Kvs} {a b c x y : Int} : hasR (rowsOf (putP kvs (a, b) c)) x y ↔ (x = a ∧ y = b) ∨ hasR (rowsOf kvs) x y := by
  constructor
  · rintro ⟨k, hk⟩
    rcases mem_rows_put.mp hk with h | ⟨h, _⟩
    · cases h; exact .inl ⟨rfl, rfl⟩
    · exact .inr ⟨k, h⟩
  · intro h
    by_cases q : x = a ∧ y = b
    · exact ⟨c, mem_rows_put.mpr (.inl (by rw [q.1, q.2]))⟩
    · rcases h with h | ⟨k, hk⟩
      · exact absurd h q
      · exact ⟨k, mem_rows_put.mpr (.inr ⟨hk, q⟩)⟩
/-! ### where a group is entered by none -/
theorem lack_none {n : Int} {rows : List Rw3} (R : RowsIn n rows) {a b : Int} (hb : 1 ≤ b ∧ b < n) (h : leastV n rows = none) : lackV n rows a b = none := by
  unfold lackV
  cases q : leastV n (onlyR rows a b) with
  | none => rfl
  | some m =>
    obtain ⟨⟨fam, I, _, _⟩, _⟩ := (only_some R hb).mp q
    exact absurd I ((leastV_none R).mp h fam)
theorem free_none {n : Int} {rows : List Rw3} (R : RowsIn n rows) (h : leastV n rows = none) : freeR n rows = [] := by
  unfold freeR
  rw [List.filter_eq_nil_iff.mpr, List.map_nil]
  intro r hr
  rw [lack_none R (R.b0 r hr) h]
  decide
theorem bound_none {n : Int} {rows : List Rw3} (R : RowsIn n rows) (h : leastV n rows = none) : boundR n rows = [] := by
  unfold boundR
  rw [free_none R h, List.filter_nil]
end HG

/-! deep membership; drawn trees, rows with a family in them -/
namespace HG
open PySem PyProof.Rows L2 Evl HW
theorem room65 {k : Nat} {A : Around} (r : Room k A) : A.units + 65 < cLine := by have := r.un; omega
section
variable {X : Cx} {K : PySem.W.Frag}
theorem qo_inD (hK : X.K = K) (hu : X.A.units + 65 < cLine) : OpR X (compareOp .In) (rInD K) := hK ▸ op_inD hu
theorem qo_ninD (hK : X.K = K) (hu : X.A.units + 65 < cLine) : OpR X (compareOp .NotIn) (rNotInD K) := hK ▸ op_notInD hu
end
section
variable {α β γ : Type} {K : PySem.W.Frag} {C : Addr} {c : Cw} {Γ Δ : List Spec} {ta tb te tl td : TE} {t u : TT} {τ : Ty α} {θ : Ty β} {x : α} {D : Ends} {tu tw tz ts : TS}
theorem any_eqv [DecidableEq α] {f : α → PyData} {d : Nat} (D : Dt τ f d) (x : α) (l : List α) [Decidable (x ∈ l)] : ((l.map f).any fun z => PyData.eqv z (f x)) = decide (x ∈ l) := by
  rw [Bool.eq_iff_iff, List.any_eq_true, decide_eq_true_iff]
  constructor
  · rintro ⟨z, hz, e⟩
    obtain ⟨y, hy, rfl⟩ := List.mem_map.mp hz
    rw [D.eqv, decide_eq_true_iff] at e
    exact e ▸ hy
  · intro h
    exact ⟨f x, List.mem_map.mpr ⟨x, h, rfl⟩, by rw [D.eqv, decide_eq_true_iff]⟩
theorem eg_inD [DecidableEq α] {l : List α} [Decidable (x ∈ l)] {f : α → PyData} {d : Nat} (D : Dt τ f d) (ha : EGH c Γ ta τ x) (hb : EGH c Γ tb (aL τ) l) (hd : d + 1 ≤ 64 := by decide) : EG c Γ (tOp (rInD K) ta tb) aB (decide (x ∈ l)) := fun σ F Ms H w Q q =>
  ha σ F Ms H w _ fun u F1 H1 s1 r1 => hb σ F1 Ms H1 (w.step s1) _ fun v F2 H2 s2 r2 => ⟨f x, l.map f, D.dp (τ.up r1 s2.h) (Ex.refl _), (dt_L D).dp r2 (Ex.refl _), D.shaped (by omega) x, (dt_L D).shaped hd l, by rw [any_eqv D]; exact q _ F2 H2 (s1.trans s2) rfl⟩
theorem eg_ninD [DecidableEq α] {l : List α} [Decidable (x ∈ l)] {f : α → PyData} {d : Nat} (D : Dt τ f d) (ha : EGH c Γ ta τ x) (hb : EGH c Γ tb (aL τ) l) (hd : d + 1 ≤ 64 := by decide) : EG c Γ (tOp (rNotInD K) ta tb) aB (!decide (x ∈ l)) := fun σ F Ms H w Q q =>
  ha σ F Ms H w _ fun u F1 H1 s1 r1 => hb σ F1 Ms H1 (w.step s1) _ fun v F2 H2 s2 r2 => ⟨f x, l.map f, D.dp (τ.up r1 s2.h) (Ex.refl _), (dt_L D).dp r2 (Ex.refl _), D.shaped (by omega) x, (dt_L D).shaped hd l, by rw [any_eqv D]; exact q _ F2 H2 (s1.trans s2) rfl⟩
end
/-! ### a drawn tree -/
structure TreeOk (n : Int) (fam : Fml) : Prop where
  len : (fam.length : Int) = n
  root : fam[0]? = some none
  hear : ∀ t : Int, 1 ≤ t → t < n → ∃ a, fam[t.toNat]? = some (some a) ∧ (0 ≤ a ∧ a < n) ∧ a ≠ t
  lead : ∀ t : Int, 0 ≤ t → t < n → up fam n.toNat t = 0
structure TreeI (n : Int) (i : Nat) (L Th : List Int) (fam : Fml) : Prop where
  lL : (L.length : Int) + i + 1 = n
  lT : Th.length = 1 + i
  lF : (fam.length : Int) = n
  rank : ∀ (j : Nat) (x : Int), Th[j]? = some x → (0 ≤ x ∧ x < n) ∧ up fam j x = 0
  clo : ∀ x ∈ Th, x ≠ 0 → ∃ a ∈ Th, a ≠ x ∧ fam[x.toNat]? = some (some a)
  left : ∀ t ∈ L, (1 ≤ t ∧ t < n) ∧ t ∉ Th
  nd : L.Nodup
  all : ∀ t : Int, 0 ≤ t → t < n → t ∈ L ∨ t ∈ Th
  root : fam[0]? = some none
theorem TreeI.start {n : Int} (h : 1 ≤ n) : TreeI n 0 (rgI 1 n) [0] ((List.range n.toNat).map fun _ => none) where
  lL := by simp [rgI]; omega
  lT := rfl
  lF := by simp; omega
  rank := fun j x e => by
    cases j with
    | zero => cases e; exact ⟨by omega, rfl⟩
    | succ j => simp at e
  clo := fun x hx hn => absurd (by simpa using hx) hn
  left := fun t ht => by
    obtain ⟨i, hi, rfl⟩ := List.mem_map.mp ht
    have := List.mem_range.mp hi
    exact ⟨by omega, by simp; omega⟩
  nd := by
    unfold rgI List.Nodup
    rw [List.pairwise_map]
    exact (List.pairwise_lt_range).imp fun {a b} h => by omega
  all := fun t a b => by
    by_cases e : t = 0
    · exact .inr (by simp [e])
    · exact .inl (List.mem_map.mpr ⟨(t - 1).toNat, List.mem_range.mpr (by omega), by omega⟩)
  root := by
    rw [List.getElem?_map, List.getElem?_range (by omega)]; rfl
theorem par_set {fam : Fml} {t x a : Int} (hx : x ≠ t) (h0 : 0 ≤ x) (ht : 0 ≤ t) : HW.par (fam.set t.toNat (some a)) x = HW.par fam x := by
  unfold HW.par
  rw [List.getElem?_set_ne (by omega)]
theorem up_keep {fam : Fml} {t a : Int} {Th : List Int} (ht : 0 ≤ t) (no : t ∉ Th) (h0 : ∀ x ∈ Th, 0 ≤ x) (z : (0 : Int) ∈ Th) (clo : ∀ x ∈ Th, x ≠ 0 → ∃ a ∈ Th, a ≠ x ∧ fam[x.toNat]? = some (some a)) : ∀ (j : Nat) (x : Int), x ∈ Th → up (fam.set t.toNat (some a)) j x = up fam j x
  | 0, x, _ => rfl
  | j + 1, x, hx => by
    have hn : x ≠ t := fun e => no (e ▸ hx)
    show up _ j (HW.par _ x) = up fam j (HW.par fam x)
    rw [par_set hn (h0 x hx) ht]
    refine up_keep ht no h0 z clo j _ ?_
    by_cases e : x = 0
    · rw [e, par_zero]; exact z
    · obtain ⟨b, hb, _, q⟩ := clo x hx e
      unfold HW.par
      rw [if_neg e, q]
      exact hb
theorem TreeI.next {n : Int} {i p q : Nat} {L Th : List Int} {fam : Fml} {t a : Int} (I : TreeI n i L Th fam) (z : (0 : Int) ∈ Th) (hp : L[p]? = some t) (hq : Th[q]? = some a) : TreeI n (i + 1) (L.eraseIdx p) (Th ++ [t]) (fam.set t.toNat (some a)) := by
  have htL : t ∈ L := List.mem_of_getElem? hp
  have haT : a ∈ Th := List.mem_of_getElem? hq
  have tl := I.left t htL
  have hpl : p < L.length := (List.getElem?_eq_some_iff.mp hp).1
  have hql : q < Th.length := (List.getElem?_eq_some_iff.mp hq).1
  have h0 : ∀ x ∈ Th, 0 ≤ x := fun x hx => by
    obtain ⟨j, hj⟩ := List.mem_iff_getElem?.mp hx
    exact (I.rank j x hj).1.1
  have keep := up_keep (fam := fam) (t := t) (a := a) (by omega) tl.2 h0 z I.clo
  have lF := I.lF
  have at_t : (fam.set t.toNat (some a))[t.toNat]? = some (some a) := List.getElem?_set_self (by omega)
  have pt : HW.par (fam.set t.toNat (some a)) t = a := by
    unfold HW.par; rw [if_neg (by omega), at_t]; rfl
  refine ⟨by have := List.length_eraseIdx_of_lt hpl; have := I.lL; omega, by rw [List.length_append, I.lT]; simp; omega, by rw [List.length_set]; exact lF, fun j x e => ?_, fun x hx hn => ?_, fun y hy => ?_, I.nd.sublist (List.eraseIdx_sublist _ _), fun y ya yb => ?_, ?_⟩
  · by_cases c : j < Th.length
    · rw [List.getElem?_append_left c] at e
      have r := I.rank j x e
      exact ⟨r.1, by rw [keep j x (List.mem_of_getElem? e)]; exact r.2⟩
    · rw [List.getElem?_append_right (by omega)] at e
      have jz : j - Th.length = 0 := by
        cases k : j - Th.length with
        | zero => rfl
        | succ k' => rw [k] at e; simp at e
      rw [jz] at e
      have ex : t = x := by simpa using e
      subst ex
      have ej : j = i + 1 := by have := I.lT; omega
      subst ej
      refine ⟨by omega, ?_⟩
      show up _ i (HW.par _ t) = 0
      rw [pt, keep i a haT]
      exact up_late (by have := I.lT; omega) (I.rank q a hq).2
  · rcases List.mem_append.mp hx with hx | hx
    · obtain ⟨b, hb, hne, e⟩ := I.clo x hx hn
      have hxt : x ≠ t := fun z => tl.2 (z ▸ hx)
      have := h0 x hx
      exact ⟨b, List.mem_append_left _ hb, hne, by rw [List.getElem?_set_ne (by omega)]; exact e⟩
    · have : x = t := by simpa using hx
      subst this
      exact ⟨a, List.mem_append_left _ haT, fun z => tl.2 (z ▸ haT), at_t⟩
  · have hy' : y ∈ L := List.mem_of_mem_eraseIdx hy
    refine ⟨(I.left y hy').1, fun h => ?_⟩
    rcases List.mem_append.mp h with h | h
    · exact (I.left y hy').2 h
    · have : y = t := by simpa using h
      subst this
      obtain ⟨k, hk⟩ := List.mem_iff_getElem?.mp hy
      rw [List.getElem?_eraseIdx] at hk
      have nd := List.pairwise_iff_getElem.mp (show L.Pairwise (· ≠ ·) from I.nd)
      split at hk
      · obtain ⟨k1, k2⟩ := List.getElem?_eq_some_iff.mp hk
        exact nd k p k1 hpl (by omega) (by rw [k2, (List.getElem?_eq_some_iff.mp hp).2])
      · obtain ⟨k1, k2⟩ := List.getElem?_eq_some_iff.mp hk
        exact nd p (k + 1) hpl k1 (by omega) (by rw [k2, (List.getElem?_eq_some_iff.mp hp).2])
  · rcases I.all y ya yb with h | h
    · by_cases e : y = t
      · exact .inr (by simp [e])
      · left
        obtain ⟨k, hk⟩ := List.mem_iff_getElem?.mp h
        have kp : k ≠ p := fun z => by rw [z, hp] at hk; exact e (Option.some.inj hk).symm
        by_cases c : k < p
        · exact List.mem_of_getElem? (i := k) (by rw [List.getElem?_eraseIdx, if_pos c]; exact hk)
        · exact List.mem_of_getElem? (i := k - 1) (by rw [List.getElem?_eraseIdx, if_neg (by omega), show k - 1 + 1 = k by omega]; exact hk)
    · exact .inr (List.mem_append_left _ h)
  · rw [List.getElem?_set_ne (by omega)]; exact I.root
theorem TreeI.done {n : Int} {i : Nat} {L Th : List Int} {fam : Fml} (I : TreeI n i L Th fam) (h1 : 1 ≤ n) (h : (i : Int) + 1 = n) : TreeOk n fam where
  len := I.lF
  root := I.root
  hear := fun t a b => by
    have lL := I.lL
    have nil : L = [] := List.length_eq_zero_iff.mp (by omega)
    rcases I.all t (by omega) b with q | q
    · rw [nil] at q; cases q
    · obtain ⟨x, hx, ne, e⟩ := I.clo t q (by omega)
      obtain ⟨j, hj⟩ := List.mem_iff_getElem?.mp hx
      exact ⟨x, e, (I.rank j x hj).1, ne⟩
  lead := fun t a b => by
    have lL := I.lL
    have nil : L = [] := List.length_eq_zero_iff.mp (by omega)
    rcases I.all t a b with q | q
    · rw [nil] at q; cases q
    · obtain ⟨j, hj⟩ := List.mem_iff_getElem?.mp q
      have := (List.getElem?_eq_some_iff.mp hj).1
      have := I.lT
      exact up_late (by omega) (I.rank j t hj).2
theorem TreeOk.par {n : Int} {fam : Fml} (T : TreeOk n fam) {t : Int} (h1 : 1 ≤ t) (h2 : t < n) : fam[t.toNat]? = some (some (HW.par fam t)) ∧ (0 ≤ HW.par fam t ∧ HW.par fam t < n) ∧ HW.par fam t ≠ t := by
  obtain ⟨a, e, h, ne⟩ := T.hear t h1 h2
  have : HW.par fam t = a := by unfold HW.par; rw [if_neg (by omega), e]; rfl
  rw [this]; exact ⟨e, h, ne⟩
/-- rows in which a family stands -/
structure WithOk (n : Int) (fam : Fml) (rows : List Rw3) : Prop where
  good : GoodR n rows
  has : ∀ t : Int, 1 ≤ t → t < n → hasR rows (HW.par fam t) t
theorem WithOk.isf {n : Int} {fam : Fml} {rows : List Rw3} (W : WithOk n fam rows) (T : TreeOk n fam) : IsFam n rows fam := ⟨T.len, T.root, fun t a b => ⟨_, (T.par a b).1, W.has t a b⟩, T.lead⟩
structure WithI (n : Int) (fam : Fml) (pairs : List (Int × Int)) (i : Nat) (made : List Rw3) : Prop where
  u : Uq made
  rg : ∀ r ∈ made, (0 ≤ r.1 ∧ r.1 < n) ∧ (1 ≤ r.2.1 ∧ r.2.1 < n) ∧ r.1 ≠ r.2.1
  c0 : ∀ r ∈ made, 0 ≤ r.2.2
  old : ∀ p ∈ pairs, hasR made p.1 p.2
  has : ∀ t : Int, 1 ≤ t → t < 1 + (i : Int) → hasR made (HW.par fam t) t
  new : ∀ r ∈ made, (r.1, r.2.1) ∈ pairs ∨ r.2.1 < 1 + (i : Int)
  sz : made.length ≤ pairs.length + i
theorem WithI.start {n : Int} {fam : Fml} {rows : List Rw3} (G : GoodR n rows) : WithI n fam (rows.map fun r => (r.1, r.2.1)) 0 rows where
  u := lt2_uq G.srt
  rg := G.rg
  c0 := G.c0
  old := fun p hp => by
    obtain ⟨r, hr, rfl⟩ := List.mem_map.mp hp
    exact ⟨r.2.2, hr⟩
  has := fun t a b => by omega
  new := fun r hr => .inl (List.mem_map.mpr ⟨r, hr, rfl⟩)
  sz := by simp
theorem WithI.keep {n : Int} {fam : Fml} {pairs : List (Int × Int)} {i : Nat} {made : List Rw3} (I : WithI n fam pairs i made) (h : (HW.par fam (1 + (i : Int)), 1 + (i : Int)) ∈ pairs) : WithI n fam pairs (i + 1) made where
  u := I.u
  rg := I.rg
  c0 := I.c0
  old := I.old
  has := fun t a b => by
    by_cases q : t < 1 + (i : Int)
    · exact I.has t a q
    · rw [show t = 1 + (i : Int) by omega]; exact I.old _ h
  new := fun r hr => (I.new r hr).imp_right fun h => by omega
  sz := by have := I.sz; omega
theorem WithI.app {n : Int} {fam : Fml} {pairs : List (Int × Int)} {i : Nat} {made : List Rw3} (I : WithI n fam pairs i made) (T : TreeOk n fam) (hi : 1 + (i : Int) < n) (h : (HW.par fam (1 + (i : Int)), 1 + (i : Int)) ∉ pairs) {k : Int} (hk : 0 ≤ k) : WithI n fam pairs (i + 1) (made ++ [(HW.par fam (1 + (i : Int)), 1 + (i : Int), k)]) := by
  have tp := T.par (show 1 ≤ 1 + (i : Int) by omega) hi
  refine ⟨?_, fun r hr => ?_, fun r hr => ?_, fun p hp => ?_, fun t a b => ?_, fun r hr => ?_, ?_⟩
  · unfold Uq
    rw [List.map_append, List.nodup_append]
    refine ⟨I.u, by simp, fun p hp q hq e => ?_⟩
    obtain ⟨r, hr, rfl⟩ := List.mem_map.mp hp
    have hq' : q = (HW.par fam (1 + (i : Int)), 1 + (i : Int)) := by simpa using hq
    rw [hq'] at e
    rcases I.new r hr with h1 | h1
    · exact h (e ▸ h1)
    · have := congrArg (·.2) e
      simp at this
      omega
  · rcases List.mem_append.mp hr with hr | hr
    · exact I.rg r hr
    · have : r = (HW.par fam (1 + (i : Int)), 1 + (i : Int), k) := by simpa using hr
      subst this
      exact ⟨tp.2.1, ⟨by show 1 ≤ 1 + (i : Int); omega, hi⟩, tp.2.2⟩
  · rcases List.mem_append.mp hr with hr | hr
    · exact I.c0 r hr
    · have : r = (HW.par fam (1 + (i : Int)), 1 + (i : Int), k) := by simpa using hr
      subst this
      exact hk
  · obtain ⟨c, hc⟩ := I.old p hp
    exact ⟨c, List.mem_append_left _ hc⟩
  · by_cases q : t < 1 + (i : Int)
    · obtain ⟨c, hc⟩ := I.has t a q
      exact ⟨c, List.mem_append_left _ hc⟩
    · rw [show t = 1 + (i : Int) by omega]
      exact ⟨k, List.mem_append_right _ (by simp)⟩
  · rcases List.mem_append.mp hr with hr | hr
    · exact (I.new r hr).imp_right fun h => by omega
    · have : r = (HW.par fam (1 + (i : Int)), 1 + (i : Int), k) := by simpa using hr
      subst this
      exact .inr (by show 1 + (i : Int) < _; omega)
  · rw [List.length_append]; simp; have := I.sz; omega
theorem WithI.done {n : Int} {fam : Fml} {pairs : List (Int × Int)} {i : Nat} {made : List Rw3} (I : WithI n fam pairs i made) (n1 : 1 ≤ n) (n2 : n ≤ 12) (h : 1 + (i : Int) = n) : WithOk n fam (rowsOf (asKvs made)) := by
  have nd := asKvs_nd I.u
  have mem : ∀ {r : Rw3}, r ∈ rowsOf (asKvs made) ↔ r ∈ made := fun {r} => by
    rw [mem_rowsOf]
    unfold asKvs
    constructor
    · intro h
      obtain ⟨q, hq, e⟩ := List.mem_map.mp h
      have e1 : (q.1, q.2.1) = (r.1, r.2.1) := congrArg (·.1) e
      have e2 : q.2.2 = r.2.2 := congrArg (·.2) e
      have : q = r := Prod.ext (congrArg (·.1) e1) (Prod.ext (congrArg (·.2) e1) e2)
      exact this ▸ hq
    · exact fun h => List.mem_map.mpr ⟨r, h, rfl⟩
  exact ⟨⟨n1, n2, rowsOf_lt nd, fun r hr => I.rg r (mem.mp hr), fun r hr => I.c0 r (mem.mp hr)⟩, fun t a b => by
    obtain ⟨c, hc⟩ := I.has t a (by omega)
    exact ⟨c, mem.mpr hc⟩⟩
end HG

/-! lists of whole numbers, by their order -/
namespace HG
open PySem PyProof.Rows L2 Evl HW
/-- the first that differs decides, else the shorter comes first -/
def ltI : List Int → List Int → Bool
  | [], [] => false
  | [], _ :: _ => true
  | _ :: _, [] => false
  | x :: xs, y :: ys => if x = y then ltI xs ys else decide (x < y)
theorem ltI_eq : ∀ xs ys : List Int, PySem.W.listLt xs ys = ltI xs ys
  | [], [] => rfl
  | [], _ :: _ => rfl
  | _ :: _, [] => rfl
  | x :: xs, y :: ys => by
    show (if x = y then PySem.W.listLt xs ys else decide (x < y)) = if x = y then ltI xs ys else decide (x < y)
    rw [ltI_eq xs ys]
section
variable {X : Cx} {K : PySem.W.Frag}
def rGtL (K : PySem.W.Frag) : R2 := fun x y H Q => ∃ ns ms : List Int, Dp K H x (.list (ns.map PyData.int)) ∧ Dp K H y (.list (ms.map PyData.int)) ∧ Q (.bl (ltI ms ns)) H
def rLeL (K : PySem.W.Frag) : R2 := fun x y H Q => ∃ ns ms : List Int, Dp K H x (.list (ns.map PyData.int)) ∧ Dp K H y (.list (ms.map PyData.int)) ∧ Q (.bl (!ltI ms ns)) H
theorem lt_ints (ns ms : List Int) : PySem.W.dataLt (.list (ns.map PyData.int)) (.list (ms.map PyData.int)) = ltI ns ms := (PySem.W.DatumOrd.lt_eq ns ms).trans (ltI_eq ns ms)
theorem dep_ints (ns : List Int) : (PyData.list (ns.map PyData.int)).depth ≤ 1 := (dt_L dt_I).dep ns
theorem room_ints (hu : X.A.units + 64 < cLine) (ns ms : List Int) : X.A.units + min (PyData.list (ns.map PyData.int)).depth (PyData.list (ms.map PyData.int)).depth < cLine := by
  have := dep_ints ns
  have := Nat.min_le_left (PyData.list (ns.map PyData.int)).depth (PyData.list (ms.map PyData.int)).depth
  omega
theorem op_gtL (hu : X.A.units + 64 < cLine) : OpR X (compareOp .Gt) (rGtL X.K) := by
  intro pins s σ H x y v u Q I rx ry h
  obtain ⟨ns, ms, hd, he, q⟩ := h
  obtain ⟨as, r1⟩ := Dp.reads I _ x v hd rx
  obtain ⟨bs, r2⟩ := Dp.reads I _ y u he ry
  refine PySem.W.gt_data r1 r2 (PySem.W.DatumOrd.alike ns ms) (fun e => nomatch e) (room_ints hu ns ms) ?_
  rw [lt_ints]
  exact ⟨.bl _, H, I, rfl, q⟩
theorem op_leL (hu : X.A.units + 64 < cLine) : OpR X (compareOp .LtE) (rLeL X.K) := by
  intro pins s σ H x y v u Q I rx ry h
  obtain ⟨ns, ms, hd, he, q⟩ := h
  obtain ⟨as, r1⟩ := Dp.reads I _ x v hd rx
  obtain ⟨bs, r2⟩ := Dp.reads I _ y u he ry
  refine PySem.W.le_data r1 r2 (PySem.W.DatumOrd.alike ns ms) (fun e => nomatch e) (room_ints hu ns ms) ?_
  rw [lt_ints]
  exact ⟨.bl _, H, I, rfl, q⟩
theorem qo_gtL (hK : X.K = K) (hu : X.A.units + 64 < cLine) : OpR X (compareOp .Gt) (rGtL K) := hK ▸ op_gtL hu
theorem qo_leL (hK : X.K = K) (hu : X.A.units + 64 < cLine) : OpR X (compareOp .LtE) (rLeL K) := hK ▸ op_leL hu
end
section
variable {α β γ : Type} {K : PySem.W.Frag} {C : Addr} {c : Cw} {Γ Δ : List Spec} {ta tb te tl td : TE} {t u : TT}
theorem eg_gtL {ns ms : List Int} (ha : EGH c Γ ta (aL aI) ns) (hb : EGH c Γ tb (aL aI) ms) : EG c Γ (tOp (rGtL K) ta tb) aB (ltI ms ns) := fun σ F Ms H w Q q =>
  ha σ F Ms H w _ fun u F1 H1 s1 r1 => hb σ F1 Ms H1 (w.step s1) _ fun v F2 H2 s2 r2 => ⟨ns, ms, (dt_L dt_I).dp ((aL aI).up r1 s2.h) (Ex.refl _), (dt_L dt_I).dp r2 (Ex.refl _), q _ F2 H2 (s1.trans s2) rfl⟩
theorem eg_leL {ns ms : List Int} (ha : EGH c Γ ta (aL aI) ns) (hb : EGH c Γ tb (aL aI) ms) : EG c Γ (tOp (rLeL K) ta tb) aB (!ltI ms ns) := fun σ F Ms H w Q q =>
  ha σ F Ms H w _ fun u F1 H1 s1 r1 => hb σ F1 Ms H1 (w.step s1) _ fun v F2 H2 s2 r2 => ⟨ns, ms, (dt_L dt_I).dp ((aL aI).up r1 s2.h) (Ex.refl _), (dt_L dt_I).dp r2 (Ex.refl _), q _ F2 H2 (s1.trans s2) rfl⟩
theorem its_some {F : Hp} : ∀ {us : List V} {l : List Int}, Its aO F us (l.map some) → Its aI F us l
  | [], [], _ => .nil
  | u :: us, x :: l, h => by
    cases h with
    | cons r t => exact .cons r (its_some t)
theorem EG.ints {l : List Int} (h : EG c Γ te (aL aO) (l.map some)) : EG c Γ te (aL aI) l := h.conv fun F v ⟨p, us, e, r, i⟩ => ⟨p, us, e, r, its_some i⟩
end
/-- who tells whom, from the second teller on -/
def tlF (n : Int) (fam : Fml) : List Int := (tellers n).map (HW.par fam)
theorem tl_drop {n : Int} {rows : List Rw3} {fam : Fml} (I : IsFam n rows fam) : fam.drop 1 = (tlF n fam).map some := by
  refine List.ext_getElem? fun i => ?_
  have ln := I.len
  unfold tlF tellers
  rw [List.map_map, List.map_map, List.getElem?_drop, List.getElem?_map]
  by_cases c : i < n.toNat - 1
  · rw [List.getElem?_range c]
    have g := I.par_get (t := (i : Int) + 1) (by omega) (by omega)
    rw [show ((i : Int) + 1).toNat = 1 + i by omega] at g
    rw [g]; rfl
  · rw [List.getElem?_eq_none (by omega), List.getElem?_eq_none (by simpa using c)]; rfl
def fromL (f : Int → Int) : Nat → Int → List Int
  | 0, _ => []
  | m + 1, s => f s :: fromL f m (s + 1)
theorem fromL_range (f : Int → Int) : ∀ (m : Nat) (s : Int), fromL f m s = (List.range m).map fun (i : Nat) => f (s + (i : Int))
  | 0, _ => rfl
  | m + 1, s => by
    rw [List.range_succ_eq_map, List.map_cons, List.map_map]
    show f s :: fromL f m (s + 1) = _
    rw [fromL_range f m (s + 1)]
    refine congr (congrArg List.cons (by simp)) (List.map_congr_left fun i _ => ?_)
    show f (s + 1 + (i : Int)) = f (s + ((i + 1 : Nat) : Int))
    congr 1
    omega
theorem ltI_from {f g : Int → Int} : ∀ (m : Nat) (s : Int), ((∀ t : Int, s ≤ t → t < s + (m : Int) → f t = g t) ∨ ∃ j : Int, s ≤ j ∧ j < s + (m : Int) ∧ (∀ t : Int, s ≤ t → t < j → f t = g t) ∧ f j < g j) → ltI (fromL g m s) (fromL f m s) = false
  | 0, _, _ => rfl
  | m + 1, s, h => by
    show (if g s = f s then ltI (fromL g m (s + 1)) (fromL f m (s + 1)) else decide (g s < f s)) = false
    by_cases e : g s = f s
    · rw [if_pos e]
      refine ltI_from m (s + 1) ?_
      rcases h with h | ⟨j, j1, j2, j3, j4⟩
      · exact .inl fun t a b => h t (by omega) (by omega)
      · refine .inr ⟨j, ?_, by omega, fun t a b => j3 t (by omega) b, j4⟩
        have : j ≠ s := fun z => by rw [z] at j4; omega
        omega
    · rw [if_neg e, decide_eq_false_iff_not]
      rcases h with h | ⟨j, j1, j2, j3, j4⟩
      · exact absurd (h s (by omega) (by omega)).symm e
      · by_cases z : j = s
        · subst z; omega
        · exact absurd (j3 s (by omega) (by omega)).symm e
theorem tlF_from (n : Int) (fam : Fml) : tlF n fam = fromL (HW.par fam) (n.toNat - 1) 1 := by
  rw [fromL_range]
  unfold tlF tellers
  rw [List.map_map]
  refine List.map_congr_left fun i _ => ?_
  show HW.par fam ((i : Int) + 1) = HW.par fam (1 + (i : Int))
  rw [Int.add_comm]
theorem Ahead.lt {n : Int} {fam g : Fml} (a : Ahead n fam g) : ltI (tlF n g) (tlF n fam) = false := by
  rw [tlF_from, tlF_from]
  refine ltI_from _ _ ?_
  rcases a with a | ⟨j, j1, j2, j3, j4⟩
  · exact .inl fun t x y => a t x (by omega)
  · exact .inr ⟨j, j1, by omega, j3, j4⟩
/-- what the judged one is worth is the least -/
theorem Judged.first {n : Int} {rows : List Rw3} {fam : Fml} {P : List Price} (J : Judged n rows fam P) (R : RowsIn n rows) {f : Fml} (F : FirstIs n rows f) : HW.worth n rows f = HW.worth n rows fam := Option.some.inj (F.low.symm.trans (J.least R))
section
variable {α β γ : Type} {K : PySem.W.Frag} {C : Addr} {c : Cw} {Γ Δ : List Spec} {ta tb te tl td : TE} {t u : TT}
/-- fam[1:] -/
theorem eg_tail {n : Int} {rows : List Rw3} {fam : Fml} (h : EG c Γ te (aL aO) fam) (I : IsFam n rows fam) : EG c Γ (tSl (rSlL K) te (tPart (tC (.int 1))) tNoPart) (aL aI) (tlF n fam) := by
  refine EG.ints (EG.eq (EN.fz (en_slice h.el (eo_some eg_int) eo_none)) ?_)
  rw [← tl_drop I]
  exact cutL_from (j := 1) (by
    have := (List.getElem?_eq_some_iff.mp I.root).1
    omega)
end
open Classical in
theorem min_nat {P : Nat → Prop} : ∀ (m k : Nat), k ≤ m → P k → ∃ k, P k ∧ ∀ j, P j → k ≤ j
  | 0, k, h, p => ⟨k, p, fun j _ => by omega⟩
  | m + 1, k, h, p => by
    by_cases q : ∃ j, j < k ∧ P j
    · obtain ⟨j, j1, j2⟩ := q
      exact min_nat m j (by omega) j2
    · exact ⟨k, p, fun j pj => Nat.le_of_not_lt fun l => q ⟨j, l, pj⟩⟩
theorem first_all {n : Int} {rows : List Rw3} (R : RowsIn n rows) {w : Int} (h : leastV n rows = some w) : ∃ fam, FirstIs n rows fam := by
  obtain ⟨⟨fam, I, _⟩, _⟩ := (leastV_some R).mp h
  have n1 : 1 ≤ n := by
    have := (List.getElem?_eq_some_iff.mp I.root).1
    have := I.len
    omega
  have all : ∀ i : Nat, 1 + (i : Int) ≤ n → ∃ cur fnd, FirstInv n rows w i cur fnd := by
    intro i
    induction i with
    | zero => exact fun _ => ⟨rows, [none], FirstInv.start R h⟩
    | succ i ih =>
      intro hi
      obtain ⟨cur, fnd, V⟩ := ih (by omega)
      obtain ⟨a, ha, hw⟩ := V.good (t := 1 + (i : Int)) (by omega) (by omega)
      have pos : ∀ b, hasR cur b (1 + (i : Int)) → 0 ≤ b := fun b ⟨c, hc⟩ => (V.rin.a0 _ hc).1
      obtain ⟨k, ⟨k1, k2⟩, k3⟩ := min_nat (P := fun k : Nat => hasR cur (k : Int) (1 + (i : Int)) ∧ leastV n (onlyR cur (k : Int) (1 + (i : Int))) = some w) a.toNat a.toNat (Nat.le_refl _) (by
        have e : ((a.toNat : Nat) : Int) = a := by have := pos a ha; omega
        show hasR cur ((a.toNat : Nat) : Int) _ ∧ leastV n (onlyR cur ((a.toNat : Nat) : Int) _) = _
        rw [e]; exact ⟨ha, hw⟩)
      refine ⟨_, _, V.next R (by omega) k2 fun b hb hbw => ?_⟩
      have e : ((b.toNat : Nat) : Int) = b := by have := pos b hb; omega
      have := k3 b.toNat (by
        show hasR cur ((b.toNat : Nat) : Int) _ ∧ leastV n (onlyR cur ((b.toNat : Nat) : Int) _) = _
        rw [e]; exact ⟨hb, hbw⟩)
      omega
  obtain ⟨cur, fnd, V⟩ := all (n - 1).toNat (by omega)
  exact ⟨fnd, V.done R (by omega)⟩
end HG

/-! a list that stands somewhere in a thing of one's own -/
namespace HG
open PySem PyProof.Rows L2 Evl HW
section
variable {α β γ : Type} {K : PySem.W.Frag} {C : Addr} {c : Cw} {Γ Δ : List Spec} {ta tb te tl td tx : TE} {t u : TT} {τ : Ty α} {θ : Ty β} {x : α} {y : β} {D : Ends} {tu tw tz ts : TS}
theorem Wd.mutC {σ : L2.St} {F H : Hp} {Ms : Nat → Hp} (w : Wd c Γ σ F Ms H) {κ : Ob α} {κ' : Ob β} {i : Nat} (h : Γ[i]? = some (.own κ x)) {p : Addr} {o o' : HO} (hp : Ms i p = some o) {v : V} (hv : σ[i]? = some (some v)) (r : κ'.S y F v (upd (Ms i) p o')) :
    Wd c (Γ.set i (.own κ' y)) σ F (updM Ms i (upd (Ms i) p o')) (upd H p o') := by
  obtain ⟨v', h1, h2, m, k⟩ := w.mut (κ' := κ') (y := y) h
  have ev : v' = v := by rw [hv] at h1; exact (Option.some.inj (Option.some.inj h1)).symm
  subst ev
  have ne : ∀ a u, F a = some u → a ≠ p := fun a u q e => by rw [e, w.mf i p o hp] at q; cases q
  refine k _ F _ (Ex.refl _) (fun a u ha => ?_) (fun a u ha hn => ?_) (fun a ⟨u, ha⟩ => ?_) (fun a u ha => ?_) (fun a u ha => ?_) (fun a u ha => ?_) (fun a u q n => ?_) r
  · by_cases e : a = p
    · subst e; rw [upd_same] at ha ⊢; exact ha
    · rw [upd_ne e] at ha ⊢; exact m _ _ ha
  · have : a ≠ p := fun e => by rw [e, hp] at hn; cases hn
    rw [upd_ne this]; exact ha
  · by_cases e : a = p
    · subst e; exact ⟨_, upd_same⟩
    · exact ⟨u, by rw [upd_ne e]; exact m _ _ ha⟩
  · by_cases e : a = p
    · subst e; exact .inl ⟨_, hp⟩
    · rw [upd_ne e] at ha; exact .inl ⟨_, ha⟩
  · by_cases e : a = p
    · subst e; exact w.mf i _ _ hp
    · rw [upd_ne e] at ha; exact w.mf i _ _ ha
  · rw [upd_ne (ne a u ha)]; exact w.fx _ _ ha
  · rw [q] at n; cases n
/-- te tells a list that stands in the i-th slot's thing -/
def EW (c : Cw) (Γ : List Spec) (i : Nat) (κ : Ob α) (x : α) (P : V → Hp → Addr → List V → Prop) (te : TE) : Prop := ∀ σ F Ms H, Wd c Γ σ F Ms H → ∀ v, σ[i]? = some (some v) → κ.S x F v (Ms i) → ∀ Q : VK, (∀ p us, Ms i p = some (.lst us) → us.length < 100000 → P v (Ms i) p us → Q (.ref p) H) → te σ H Q
theorem em_appC {κ : Ob α} {κ' : Ob β} {i : Nat} {P : V → Hp → Addr → List V → Prop} {z : γ} {ρ : Ty γ} (h : Γ[i]? = some (.own κ x)) (he : EW c Γ i κ x P te) (hx : EG c Γ tx ρ z)
    (hk : ∀ F v M p us u, κ.S x F v M → M p = some (.lst us) → P v M p us → ρ.R z F u → κ'.S y F v (upd M p (.lst (us ++ [u])))) : EM c Γ (tBM K "list" rAppend te (tCons tx tNil)) (Γ.set i (.own κ' y)) aN () := fun σ F Ms H w Q q => by
  obtain ⟨v, h1, r⟩ := w.ok i _ h
  refine he σ F Ms H w v h1 r _ fun p us hp hz hP => ?_
  refine .inl ⟨rfl, us, .inl (.inl (w.mx i _ _ hp))⟩ |> fun g => ⟨g, hx σ F Ms H w _ fun u F1 H1 s1 r1 => ⟨p, us, u, rfl, rfl, s1.h _ _ (w.mx i _ _ hp), sz_lt hz, ?_⟩⟩
  exact q _ _ _ _ ((w.step s1).mutC (κ' := κ') (y := y) h hp h1 (hk F1 v (Ms i) p us u (κ.up r s1.f) hp hP r1)) rfl
theorem em_clearC {κ : Ob α} {κ' : Ob β} {i : Nat} {P : V → Hp → Addr → List V → Prop} (h : Γ[i]? = some (.own κ x)) (he : EW c Γ i κ x P te)
    (hk : ∀ F v M p us, κ.S x F v M → M p = some (.lst us) → P v M p us → κ'.S y F v (upd M p (.lst []))) : EM c Γ (tBM0 K "list" rClear te) (Γ.set i (.own κ' y)) aN () := fun σ F Ms H w Q q => by
  obtain ⟨v, h1, r⟩ := w.ok i _ h
  refine he σ F Ms H w v h1 r _ fun p us hp hz hP => ?_
  refine ⟨.inl ⟨rfl, us, .inl (.inl (w.mx i _ _ hp))⟩, p, us, rfl, rfl, w.mx i _ _ hp, ?_⟩
  exact q _ _ _ _ (w.mutC (κ' := κ') (y := y) h hp h1 (hk F v (Ms i) p us r hp hP)) rfl
end
theorem Grp.len {n : Int} {g : List Int} (G : Grp n g) : g.length ≤ n.toNat := by
  have nd : g.Nodup := lt_nodup G.srt
  have := nd.length_le_of_subset (l₂ := upTo n) fun t ht => mem_upTo.mpr (G.rng t ht)
  rwa [upTo_len] at this
end HG

/-! a list of two new things; pairs -/
namespace HG
open PySem PyProof.Rows L2 Evl HW
section
variable {α β γ : Type} {K : PySem.W.Frag} {C : Addr} {c : Cw} {Γ Δ : List Spec} {ta tb te tl td tx : TE} {t u : TT} {τ : Ty α} {θ : Ty β} {x y : α} {D : Ends} {tu tw tz ts : TS}
theorem en_lst2 (h1 : EN c Γ ta (oDeep τ) x) (h2 : EN c Γ tb (oDeep τ) y) : EN c Γ (tLst (tCons ta (tCons tb tNil))) (oDeep (aL τ)) [x, y] := fun σ F Ms H w Q q =>
  h1 σ F Ms H w _ fun v1 F1 M1 H1 s1 m1 n1 r1 => h2 σ F1 Ms H1 (w.step s1) _ fun v2 F2 M2 H2 s2 m2 n2 r2 => ⟨sz_of (n := 2) (by decide), fun p hp => by
    have d12 : ∀ a o, M1 a = some o → M2 a = none := fun a o e => none_of fun u hu => by have := m1 _ _ e; rw [(n2 a u hu).1] at this; cases this
    have dp2 : ∀ a o, M2 a = some o → a ≠ p := fun a o e z => by have := m2 _ _ e; rw [z, hp] at this; cases this
    have dp1 : ∀ a o, M1 a = some o → a ≠ p := fun a o e z => by have := s2.h _ _ (m1 _ _ e); rw [z, hp] at this; cases this
    have e1 : Ex M1 (join (join M1 M2) (one p (.lst [v1, v2]))) := fun a o e => by
      rw [join_l (none_of fun u hu => dp1 a o e (one_some hu).1), join_l (d12 a o e)]; exact e
    have e2 : Ex M2 (join (join M1 M2) (one p (.lst [v1, v2]))) := fun a o e => by
      rw [join_l (none_of fun u hu => dp2 a o e (one_some hu).1)]; exact join_r e
    have ep : join (join M1 M2) (one p (.lst [v1, v2])) p = some (.lst [v1, v2]) := join_r one_at
    obtain ⟨s3, mp, np⟩ := en_new (o := .lst [v1, v2]) s2.fh hp
    have cases3 : ∀ a o, join (join M1 M2) (one p (.lst [v1, v2])) a = some o → (one p (.lst [v1, v2]) a = some o) ∨ M2 a = some o ∨ M1 a = some o := fun a o e => by
      rcases join_some e with h | ⟨_, h⟩
      · exact .inl h
      · rcases join_some h with h | ⟨_, h⟩
        · exact .inr (.inl h)
        · exact .inr (.inr h)
    refine q (.ref p) F2 (join (join M1 M2) (one p (.lst [v1, v2]))) _ ((s1.trans s2).trans s3) (fun a o e => ?_) (fun a o e => ?_) ⟨p, [v1, v2], rfl, ep, .cons (τ.up r1 e1) (.cons (τ.up r2 e2) .nil)⟩
    · rcases cases3 a o e with h | h | h
      · exact mp _ _ h
      · exact s3.h _ _ (m2 _ _ h)
      · exact s3.h _ _ (s2.h _ _ (m1 _ _ h))
    · rcases cases3 a o e with h | h | h
      · have := np a o h
        exact ⟨fresh_back (s1.trans s2).h this.1, this.2⟩
      · exact ⟨fresh_back s1.h (n2 a o h).1, (n2 a o h).2⟩
      · refine ⟨(n1 a o h).1, none_of fun u hu => ?_⟩
        have := s2.n a u hu (n1 a o h).2
        rw [m1 _ _ h] at this; cases this⟩
/-- two lists of one's own in a list -/
def oLL : Ob Unit where
  S := fun _ F v M => ∃ p a0 a1 w0 w1, v = .ref p ∧ M p = some (.lst [.ref a0, .ref a1]) ∧ a0 ≠ p ∧ a1 ≠ p ∧ M a0 = some (.lst w0) ∧ M a1 = some (.lst w1) ∧ w1.length < 100000
  up := fun h _ => h
  ty := ⟨fun _ _ _ => True, fun h _ => h⟩
  fz := fun _ _ _ => trivial
def at0 (v : V) (M : Hp) (a : Addr) (_ : List V) : Prop := ∃ p a1 w1, v = .ref p ∧ M p = some (.lst [.ref a, .ref a1]) ∧ a ≠ p ∧ a1 ≠ p ∧ M a1 = some (.lst w1) ∧ w1.length < 100000
theorem ew_pair0 {i : Nat} {l m : List (Int × Int)} (hl : l.length < 100000) (hm : m.length < 100000) : EW c Γ i (oDeep (aL (aL (aP aI aI)))) [l, m] at0 (tOp (rIxL K) (tVar i) (tC (.int 0))) := fun σ F Ms H w v hv r Q q => by
  refine ⟨v, hv, ?_⟩
  obtain ⟨p, us, rfl, hp, it⟩ := r
  cases it with
  | @cons u0 _ us' _ r0 t0 => cases t0 with
    | @cons u1 _ us'' _ r1 t1 =>
      cases t1
      obtain ⟨a0, w0, rfl, h0, i0⟩ := r0
      obtain ⟨a1, w1, rfl, h1, i1⟩ := r1
      have no : ∀ {b : Addr} {wb : List V} {k : List (Int × Int)}, Ms i b = some (.lst wb) → Its (aP aI aI) (Ms i) wb k → b ≠ p := fun {b wb k} hb ib e => by
        subst e
        rw [hp] at hb
        cases hb
        cases ib with
        | cons rr _ =>
          obtain ⟨pp, _, _, e1, e2, _⟩ := rr
          cases e1
          rw [h0] at e2
          cases e2
      exact ⟨p, _, 0, _, rfl, rfl, .inl (.inl (w.mx i _ _ hp)), rfl, q a0 w0 h0 (by rw [pr_len i0]; exact hl) ⟨p, a1, w1, rfl, hp, no h0 i0, no h1 i1, h1, by rw [pr_len i1]; exact hm⟩⟩
theorem oll_clear {F : Hp} {v : V} {M : Hp} {a : Addr} {us : List V} (h : at0 v M a us) : oLL.S () F v (upd M a (.lst [])) := by
  obtain ⟨p, a1, w1, rfl, hp, n0, n1, h1, hz⟩ := h
  by_cases e : a1 = a
  · exact ⟨p, a, a1, [], [], rfl, by rw [upd_ne n0.symm]; exact hp, n0, n1, upd_same, by rw [e]; exact upd_same, by decide⟩
  · exact ⟨p, a, a1, [], w1, rfl, by rw [upd_ne n0.symm]; exact hp, n0, n1, upd_same, by rw [upd_ne e]; exact h1, hz⟩
theorem ew_ll1 {i : Nat} : EW c Γ i oLL () (fun _ _ _ _ => True) (tOp (rIxL K) (tVar i) (tC (.int 1))) := fun σ F Ms H w v hv r Q q => by
  refine ⟨v, hv, ?_⟩
  obtain ⟨p, a0, a1, w0, w1, rfl, hp, _, _, _, h1, hz⟩ := r
  exact ⟨p, _, 1, _, rfl, rfl, .inl (.inl (w.mx i _ _ hp)), rfl, q a1 w1 h1 hz trivial⟩
theorem eg_lenP {x : α × β} (h : EG c Γ te (aP τ θ) x) : EG c Γ (tCB (rLenS K) (tCons te tNil)) aI 2 := fun σ F Ms H w Q q => h σ F Ms H w _ fun v F1 H1 s1 ⟨p, a, b, e, h1, _⟩ => ⟨p, _, by rw [e], .inr (.inl (.inl (s1.fh _ _ h1))), q _ F1 H1 s1 rfl⟩
theorem EGH.eq {x' : α} (h : EGH c Γ te τ x) (e : x = x') : EGH c Γ te τ x' := e ▸ h
end
end HG

/-! costs that are changed, row by row -/
namespace HG
open PySem PyProof.Rows L2 Evl HW
/-- of the same two tellers -/
def Kp (g : Rw3 → Rw3) : Prop := ∀ r, (g r).1 = r.1 ∧ (g r).2.1 = r.2.1
theorem kp_id : Kp fun r => r := fun _ => ⟨rfl, rfl⟩
def mixL (f g : Rw3 → Rw3) (rows : List Rw3) (i : Nat) : List Rw3 := (rows.take i).map g ++ (rows.drop i).map f
theorem mixL_len {f g : Rw3 → Rw3} {rows : List Rw3} {i : Nat} : (mixL f g rows i).length = rows.length := by
  unfold mixL
  rw [List.length_append, List.length_map, List.length_map, ← List.length_append, List.take_append_drop]
theorem mixL_end {f g : Rw3 → Rw3} {rows : List Rw3} : mixL f g rows rows.length = rows.map g := by
  unfold mixL
  rw [List.take_length, List.drop_length, List.map_nil, List.append_nil]
theorem mixL_0 {f g : Rw3 → Rw3} {rows : List Rw3} : mixL f g rows 0 = rows.map f := rfl
theorem mixL_id {g : Rw3 → Rw3} {rows : List Rw3} : mixL (fun r => r) g rows 0 = rows := by rw [mixL_0]; exact List.map_id' rows
theorem drop_of {α : Type} {l : List α} {i : Nat} {x : α} (h : l[i]? = some x) : l.drop i = x :: l.drop (i + 1) := by
  obtain ⟨h1, h2⟩ := List.getElem?_eq_some_iff.mp h
  rw [List.drop_eq_getElem_cons h1, h2]
theorem mixL_same {f g : Rw3 → Rw3} {rows : List Rw3} {i : Nat} {r : Rw3} (h : rows[i]? = some r) (e : g r = f r) : mixL f g rows i = mixL f g rows (i + 1) := by
  unfold mixL
  rw [take_succ_of h, drop_of h, List.map_append, List.map_cons, List.append_assoc]
  show _ = _ ++ ([g r] ++ _)
  rw [e]; rfl
theorem mixL_put {f g : Rw3 → Rw3} (kf : Kp f) (kg : Kp g) {rows : List Rw3} (u : Uq rows) {i : Nat} {r : Rw3} (h : rows[i]? = some r) : putP (asKvs (mixL f g rows i)) (r.1, r.2.1) (g r).2.2 = asKvs (mixL f g rows (i + 1)) := by
  obtain ⟨hi, hir⟩ := List.getElem?_eq_some_iff.mp h
  have nd := List.pairwise_iff_getElem.mp (show (rows.map fun r => (r.1, r.2.1)).Pairwise (· ≠ ·) from u)
  have ne : ∀ (j : Nat) (q : Rw3), rows[j]? = some q → j ≠ i → (q.1, q.2.1) ≠ (r.1, r.2.1) := fun j q hj hn e => by
    obtain ⟨hj1, hj2⟩ := List.getElem?_eq_some_iff.mp hj
    rcases Nat.lt_or_gt_of_ne hn with c | c
    · exact nd j i (by rw [List.length_map]; exact hj1) (by rw [List.length_map]; exact hi) c (by rw [List.getElem_map, List.getElem_map, hj2, hir]; exact e)
    · exact nd i j (by rw [List.length_map]; exact hi) (by rw [List.length_map]; exact hj1) c (by rw [List.getElem_map, List.getElem_map, hj2, hir]; exact e.symm)
  have neA : ∀ q ∈ rows.take i, (q.1, q.2.1) ≠ (r.1, r.2.1) := fun q hq => by
    obtain ⟨j, hj⟩ := List.mem_iff_getElem?.mp hq
    rw [List.getElem?_take] at hj
    split at hj
    · exact ne j q hj (by omega)
    · cases hj
  have neB : ∀ q ∈ rows.drop (i + 1), (q.1, q.2.1) ≠ (r.1, r.2.1) := fun q hq => by
    obtain ⟨j, hj⟩ := List.mem_iff_getElem?.mp hq
    rw [List.getElem?_drop] at hj
    exact ne _ q hj (by omega)
  have ek : ∀ (k : Rw3 → Rw3), Kp k → ∀ q, ((k q).1, (k q).2.1) = (q.1, q.2.1) := fun k hk q => Prod.ext (hk q).1 (hk q).2
  have idm : ∀ (k : Rw3 → Rw3), Kp k → ∀ l : List Rw3, (∀ q ∈ l, (q.1, q.2.1) ≠ (r.1, r.2.1)) → (asKvs (l.map k)).map (fun e => if e.1 = (r.1, r.2.1) then (e.1, (g r).2.2) else e) = asKvs (l.map k) := fun k hk l hl => by
    refine (List.map_congr_left (g := fun e => e) fun e he => ?_).trans (List.map_id' _)
    obtain ⟨q', hq', rfl⟩ := List.mem_map.mp he
    obtain ⟨q, hq, rfl⟩ := List.mem_map.mp hq'
    exact if_neg fun z => hl q hq ((ek k hk q).symm.trans z)
  unfold mixL
  rw [take_succ_of h, drop_of h, List.map_append, List.map_cons]
  have split1 : asKvs ((rows.take i).map g ++ f r :: (rows.drop (i + 1)).map f) = asKvs ((rows.take i).map g) ++ ((r.1, r.2.1), (f r).2.2) :: asKvs ((rows.drop (i + 1)).map f) := by
    unfold asKvs
    rw [List.map_append, List.map_cons, ek f kf r]
  have split2 : asKvs (((rows.take i).map g ++ [r].map g) ++ (rows.drop (i + 1)).map f) = asKvs ((rows.take i).map g) ++ ((r.1, r.2.1), (g r).2.2) :: asKvs ((rows.drop (i + 1)).map f) := by
    unfold asKvs
    rw [List.append_assoc, List.map_append]
    show _ ++ (((g r).1, (g r).2.1), (g r).2.2) :: _ = _
    rw [ek g kg r]
    rfl
  rw [split1, split2]
  unfold putP
  rw [if_pos (List.any_eq_true.mpr ⟨((r.1, r.2.1), (f r).2.2), List.mem_append_right _ List.mem_cons_self, decide_eq_true rfl⟩), List.map_append, List.map_cons, idm g kg _ neA, idm f kf _ neB, if_pos rfl]
theorem good_map {n : Int} {rows : List Rw3} (G : GoodR n rows) {g : Rw3 → Rw3} (kg : Kp g) (c0 : ∀ r ∈ rows, 0 ≤ (g r).2.2) : GoodR n (rows.map g) where
  n1 := G.n1
  n2 := G.n2
  srt := by
    rw [List.pairwise_map]
    refine G.srt.imp fun {a b} h => ?_
    show (g a).1 < (g b).1 ∨ ((g a).1 = (g b).1 ∧ (g a).2.1 < (g b).2.1)
    rw [(kg a).1, (kg a).2, (kg b).1, (kg b).2]
    exact h
  rg := fun r hr => by
    obtain ⟨q, hq, rfl⟩ := List.mem_map.mp hr
    rw [(kg q).1, (kg q).2]
    exact G.rg q hq
  c0 := fun r hr => by
    obtain ⟨q, hq, rfl⟩ := List.mem_map.mp hr
    exact c0 q hq
theorem has_map {rows : List Rw3} {g : Rw3 → Rw3} (kg : Kp g) {a b : Int} : hasR (rows.map g) a b ↔ hasR rows a b := by
  constructor
  · rintro ⟨c, hc⟩
    obtain ⟨q, hq, e⟩ := List.mem_map.mp hc
    have e1 : q.1 = a := (kg q).1.symm.trans (congrArg (·.1) e)
    have e2 : q.2.1 = b := (kg q).2.symm.trans (congrArg (·.2.1) e)
    exact ⟨q.2.2, by rw [← e1, ← e2]; exact hq⟩
  · rintro ⟨c, hc⟩
    refine ⟨(g (a, b, c)).2.2, List.mem_map.mpr ⟨_, hc, ?_⟩⟩
    exact Prod.ext (kg (a, b, c)).1 (Prod.ext (kg (a, b, c)).2 rfl)
theorem isFam_map {n : Int} {rows : List Rw3} {g : Rw3 → Rw3} (kg : Kp g) {fam : Fml} : IsFam n (rows.map g) fam ↔ IsFam n rows fam :=
  ⟨fun I => I.to fun t _ _ h => (has_map kg).mp h, fun I => I.to fun t _ _ h => (has_map kg).mpr h⟩
theorem worth_map {n : Int} {rows : List Rw3} (R : RowsIn n rows) {g : Rw3 → Rw3} (kg : Kp g) (R' : RowsIn n (rows.map g)) {fam : Fml} (I : IsFam n rows fam) {ψ : Int → Int → Int} (hg : ∀ r ∈ rows, (g r).2.2 = ψ r.2.1 r.2.2) : HW.worth n (rows.map g) fam = tot (fun t => ψ t (costR rows (HW.par fam t) t)) (tellers n) := by
  unfold HW.worth
  refine tot_congr fun t ht => ?_
  obtain ⟨t1, t2⟩ := mem_tellers.mp ht
  obtain ⟨c, hc⟩ := I.par_of t1 t2
  rw [costR_of R.uq hc]
  refine costR_of R'.uq (List.mem_map.mpr ⟨_, hc, ?_⟩)
  exact Prod.ext (kg _).1 (Prod.ext (kg _).2 (hg _ hc))
theorem tell_count {n t0 : Int} (h1 : 1 ≤ t0) (h2 : t0 < n) : (tellers n).countP (fun t => decide (t = t0)) = 1 := by
  unfold tellers
  rw [List.countP_map]
  have : ∀ m : Nat, (List.range m).countP ((fun t : Int => decide (t = t0)) ∘ fun (i : Nat) => (i : Int) + 1) = if t0.toNat ≤ m then 1 else 0 := by
    intro m
    induction m with
    | zero => rw [if_neg (by omega)]; rfl
    | succ m ih =>
      rw [List.range_succ, List.countP_append, ih]
      show _ + List.countP _ [m] = _
      rw [List.countP_cons, List.countP_nil]
      show _ + (0 + if decide ((m : Int) + 1 = t0) = true then 1 else 0) = _
      by_cases c : (m : Int) + 1 = t0
      · rw [if_neg (by omega), if_pos (decide_eq_true c), if_pos (by omega)]
      · rw [decide_eq_false c, if_neg (show ¬ (false = true) by decide)]
        by_cases d : t0.toNat ≤ m
        · rw [if_pos d, if_pos (by omega)]
        · rw [if_neg d, if_neg (by omega)]
  rw [this, if_pos (by omega)]
/-- all families are worth so much more, or times as much -/
structure Alike (n : Int) (rows rows' : List Rw3) (φ : Int → Int) : Prop where
  r : RowsIn n rows
  r' : RowsIn n rows'
  fam : ∀ fam, IsFam n rows' fam ↔ IsFam n rows fam
  w : ∀ fam, IsFam n rows fam → HW.worth n rows' fam = φ (HW.worth n rows fam)
  mono : ∀ a b, a ≤ b → φ a ≤ φ b
  inj : ∀ a b, φ a = φ b → a = b
theorem Alike.first {n : Int} {rows rows' : List Rw3} {φ : Int → Int} (A : Alike n rows rows' φ) {f : Fml} (F : FirstIs n rows f) : FirstIs n rows' f ∧ leastV n rows' = some (φ (HW.worth n rows f)) := by
  have I' := (A.fam f).mpr F.isf
  have low : leastV n rows' = some (HW.worth n rows' f) := (leastV_some A.r').mpr ⟨⟨f, I', rfl⟩, fun g hg => by
    have Ig := (A.fam g).mp hg
    rw [A.w f F.isf, A.w g Ig]
    exact A.mono _ _ (((leastV_some A.r).mp F.low).2 g Ig)⟩
  refine ⟨⟨I', low, fun g hg e => ?_⟩, by rw [low, A.w f F.isf]⟩
  have Ig := (A.fam g).mp hg
  rw [A.w f F.isf, A.w g Ig] at e
  exact F.fst g Ig (A.inj _ _ e)
def moreG (t0 m : Int) (r : Rw3) : Rw3 := if r.2.1 = t0 then (r.1, r.2.1, r.2.2 + m) else r
def timesG (k : Int) (r : Rw3) : Rw3 := (r.1, r.2.1, r.2.2 * k)
theorem kp_more (t0 m : Int) : Kp (moreG t0 m) := fun r => by
  unfold moreG
  split <;> exact ⟨rfl, rfl⟩
theorem kp_times (k : Int) : Kp (timesG k) := fun r => ⟨rfl, rfl⟩
theorem alike_more {n : Int} {rows : List Rw3} (G : GoodR n rows) {t0 m : Int} (h1 : 1 ≤ t0) (h2 : t0 < n) (hm : 0 ≤ m) : GoodR n (rows.map (moreG t0 m)) ∧ Alike n rows (rows.map (moreG t0 m)) (fun w => w + m) := by
  have G' : GoodR n (rows.map (moreG t0 m)) := good_map G (kp_more t0 m) fun r hr => by
    have := G.c0 r hr
    unfold moreG
    split
    · show 0 ≤ r.2.2 + m; omega
    · exact this
  refine ⟨G', G.rin, G'.rin, fun fam => isFam_map (kp_more t0 m), fun fam I => ?_, fun a b h => by show a + m ≤ b + m; omega, fun a b h => by have : a + m = b + m := h; omega⟩
  rw [worth_map G.rin (kp_more t0 m) G'.rin I (ψ := fun t c => c + if decide (t = t0) = true then m else 0) fun r _ => by
    unfold moreG
    by_cases c : r.2.1 = t0
    · rw [if_pos c, if_pos (decide_eq_true c)]
    · rw [if_neg c, if_neg (by rw [decide_eq_false c]; decide), Int.add_zero]]
  rw [tot_add, tot_count (fun t => decide (t = t0)) m, tell_count h1 h2]
  show HW.worth n rows fam + m * 1 = _
  rw [Int.mul_one]
theorem alike_times {n : Int} {rows : List Rw3} (G : GoodR n rows) {k : Int} (hk : 1 ≤ k) : GoodR n (rows.map (timesG k)) ∧ Alike n rows (rows.map (timesG k)) (fun w => w * k) := by
  have G' : GoodR n (rows.map (timesG k)) := good_map G (kp_times k) fun r hr => Int.mul_nonneg (G.c0 r hr) (by omega)
  refine ⟨G', G.rin, G'.rin, fun fam => isFam_map (kp_times k), fun fam I => ?_, fun a b h => Int.mul_le_mul_of_nonneg_right h (by omega), fun a b h => Int.eq_of_mul_eq_mul_right (by omega) h⟩
  rw [worth_map G.rin (kp_times k) G'.rin I (ψ := fun t c => k * c) fun r _ => Int.mul_comm _ _, tot_mul, Int.mul_comm]
  rfl
theorem Alike.trans {n : Int} {a b c : List Rw3} {φ ψ : Int → Int} (A : Alike n a b φ) (B : Alike n b c ψ) : Alike n a c (fun w => ψ (φ w)) where
  r := A.r
  r' := B.r'
  fam := fun fam => (B.fam fam).trans (A.fam fam)
  w := fun fam I => by rw [B.w fam ((A.fam fam).mpr I), A.w fam I]
  mono := fun x y h => B.mono _ _ (A.mono _ _ h)
  inj := fun x y h => A.inj _ _ (B.inj _ _ h)
end HG

/-! d.pop(k), k a tuple that is there -/
namespace HG
open PySem PySem.Spec PyProof.Rows L2 Evl HW
section
variable {X : Cx}
def rPopT1 : V → List V → Hp → VK → Prop := fun x xs H Q => ∃ (a : Addr) (kvs : List (List L2.Key × V)) (k : List L2.Key) (b : Addr) (v : V), x = .ref a ∧ xs = [.ref b] ∧ H a = some (.dT kvs) ∧ H b = some (.tup (k.map kV)) ∧ valV kvs k = some v ∧ Q v (upd H a (.dT (dropK kvs k)))
theorem mt_popT1 (hu : X.A.units + 1 < cLine) : MtR X "dict.pop" rPopT1 := by
  intro pins s σ H x xs v us Q I rx rxs h
  obtain ⟨a, kvs, k, b, v0, rfl, rfl, ha, hb, hv, q⟩ := h
  cases rx
  obtain ⟨u1, rfl, r1⟩ := vals1 rxs
  cases r1
  obtain ⟨z, hd, ys, rel, dd⟩ := dt_of I.hok ha
  have r := rel.val k
  rw [hv] at r
  obtain ⟨p, hp, rv⟩ : ∃ p, atKey ys k = some p ∧ RelV v0 p.2 := by
    cases e : atKey ys k with
    | none => rw [e] at r; exact (show False from r).elim
    | some p => rw [e] at r; exact ⟨p, rfl, r⟩
  refine PySem.call_pop_heap (knd := tupleKind (mixKind X.prog X.w)) (more := []) (.inl rfl) (PySem.F.args_dict_pop_2 _ _) (tupleKind_room_in1 hu) (key_of I.hok hb) hd dd hp (fun g dg sb => ?_) (by rw [← Paired.length rel]; exact z)
  obtain ⟨ob, es, ep, g1, g2, g3, g4, _, g5⟩ := dg
  have I2 : Inv X pins σ (upd H a (.dT (dropK kvs k))) { s with heap := g, toks := s.toks + (tupleKind (mixKind X.prog X.w)).draws k } :=
    d_write I (by rw [ha]; trivial) sb ⟨ob, g1⟩ ⟨Nat.le_trans (dropK_le kvs k) z, hd, _, (DX.KT_drop k rel).keeps (fun c ys ec => by rw [upd_ne (ne_of ec ha fun z => nomatch z)]; exact ec), ob, es, ep, g1, g2, g3, g4, g5⟩
  exact ⟨v0, _, I2, rv, q⟩
end
end HG

/-! ifs that meet again; lists of three kinds; a book that shrinks -/
namespace HG
open PySem PyProof.Rows L2 Evl HW
section
variable {α β γ : Type} {K : PySem.W.Frag} {C : Addr} {c : Cw} {Γ Δ : List Spec} {ta tb te tl td tx : TE} {t u : TT} {τ : Ty α} {θ : Ty β} {ρ : Ty γ} {x : α} {y : β} {z : γ} {D : Ends} {tu tw tz ts : TS}
theorem set_same {i : Nat} {s : Spec} (h : Γ[i]? = some s) : Γ.set i s = Γ := by
  refine List.ext_getElem? fun j => ?_
  by_cases e : i = j
  · subst e
    rw [List.getElem?_set_self (List.getElem?_eq_some_iff.mp h).1, h]
  · rw [List.getElem?_set_ne e]
theorem t_ifSet {b : Bool} {i : Nat} {x0 x1 : α} (h : ET c Γ t b) (hi : Γ[i]? = some (.is τ x0)) (he : EG c Γ te τ x1) (k : Tr c (Γ.set i (.is τ (if b = true then x1 else x0))) tz D) : Tr c Γ (tSeq (tIfS t (tAsg te (gName i)) tNext) tz) D :=
  t_if h (fun e => t_one (t_asg he (t_go (by subst e; exact k)))) (fun e => t_go (by subst e; rw [if_neg (by decide), set_same hi] at k; exact k))
theorem t_ifEM {b : Bool} {Δ1 Δ2 : List Spec} {te1 te2 : TE} {x1 : α} {x2 : β} (h : ET c Γ t b) (h1 : b = true → EM c Γ te1 Δ1 τ x1) (h2 : b = false → EM c Γ te2 Δ2 θ x2) (k1 : b = true → Tr c Δ1 tz D) (k2 : b = false → Tr c Δ2 tz D) : Tr c Γ (tSeq (tIfS t (tDrop te1) (tDrop te2)) tz) D :=
  t_if h (fun e => t_one (t_dropM (h1 e) (t_go (k1 e)))) (fun e => t_one (t_dropM (h2 e) (t_go (k2 e))))
/-- a list of three things -/
def aL3 (τ : Ty α) (θ : Ty β) (ρ : Ty γ) : Ty (α × β × γ) := ⟨fun x F v => ∃ p a b d, v = .ref p ∧ F p = some (.lst [a, b, d]) ∧ τ.R x.1 F a ∧ θ.R x.2.1 F b ∧ ρ.R x.2.2 F d,
  fun ⟨p, a, b, d, h1, h2, h3, h4, h5⟩ e => ⟨p, a, b, d, h1, e _ _ h2, τ.up h3 e, θ.up h4 e, ρ.up h5 e⟩⟩
theorem eg_lst3 {tc : TE} (ha : EG c Γ ta τ x) (hb : EG c Γ tb θ y) (hc : EG c Γ tc ρ z) : EG c Γ (tLst (tCons ta (tCons tb (tCons tc tNil)))) (aL3 τ θ ρ) (x, y, z) := fun σ F Ms H w Q q =>
  ha σ F Ms H w _ fun v1 F1 H1 s1 r1 => hb σ F1 Ms H1 (w.step s1) _ fun v2 F2 H2 s2 r2 => hc σ F2 Ms H2 ((w.step s1).step s2) _ fun v3 F3 H3 s3 r3 => ⟨sz_of (n := 3) (by decide), fun p hp => by
    obtain ⟨s4, m, n⟩ := en_new (o := .lst [v1, v2, v3]) s3.fh hp
    have s := ((s1.trans s2).trans s3).trans s4
    refine q _ (join F3 (one p (.lst [v1, v2, v3]))) _ (s.join m fun a o h => ?_) ⟨p, v1, v2, v3, rfl, join_r one_at, ?_, ?_, ?_⟩
    · have := n a o h
      exact ⟨fresh_back ((s1.trans s2).trans s3).h this.1, this.2⟩
    · exact τ.up r1 ((s2.f.trans s3.f).trans (ex_join_l fun a o h => (n a o h).2))
    · exact θ.up r2 (s3.f.trans (ex_join_l fun a o h => (n a o h).2))
    · exact ρ.up r3 (ex_join_l fun a o h => (n a o h).2)⟩
theorem dt_L3 {f : α → PyData} {g : β → PyData} {k : γ → PyData} {d : Nat} (D : Dt τ f d) (D2 : Dt θ g d) (D3 : Dt ρ k d) : Dt (aL3 τ θ ρ) (fun x => .list [f x.1, g x.2.1, k x.2.2]) (d + 1) where
  dp := fun {K x F H v} ⟨p, a, b, w, e1, e2, e3, e4, e5⟩ e => by
    subst e1
    exact .lst (.inl (.inl (e _ _ e2))) (.cons (D.dp e3 e) (.cons (D2.dp e4 e) (.cons (D3.dp e5 e) .nil)))
  lay := fun x => (dt_T D D2 D3).lay x
  dep := fun x => (dt_T D D2 D3).dep x
  inj := fun x y => (dt_T D D2 D3).inj x y
/-- of a kind -/
def aKnd : Ty Bool := aM fun b => V.str (if b = true then "family" else "lonely")
def datKnd (b : Bool) : PyData := if b = true then .str "family" else .str "lonely"
theorem dt_Knd : Dt aKnd datKnd 0 where
  dp := fun {K x F H v} r _ => by
    cases (show v = V.str (if x = true then "family" else "lonely") from r)
    cases x
    · exact .str _
    · exact .str _
  lay := fun x => by cases x <;> decide +kernel
  dep := fun x => by cases x <;> exact Nat.le_refl _
  inj := fun x y => by cases x <;> cases y <;> decide +kernel
theorem Dt.more {f : α → PyData} {d e : Nat} (D : Dt τ f d) (h : d ≤ e) : Dt τ f e := ⟨D.dp, D.lay, fun x => Nat.le_trans (D.dep x) h, D.inj⟩
theorem eg_neKnd {a b : Bool} (ha : EG c Γ ta aKnd a) (hb : EG c Γ tb aKnd b) : EG c Γ (tOp rNe ta tb) aB (!decide (a = b)) := (eg_neV (x := V.str (if a = true then "family" else "lonely")) (y := V.str (if b = true then "family" else "lonely")) ha hb rfl).eq (by cases a <;> cases b <;> decide +kernel)
end
theorem GoodB.drop {n : Int} {kvs : Kvs} (G : GoodB n kvs) (k : KP) : GoodB n (dropP kvs k) where
  n1 := G.n1
  n2 := G.n2
  nd := G.nd.sublist (List.filter_sublist.map _)
  rg := fun e he => G.rg e (List.mem_filter.mp he).1
  c0 := fun e he => G.c0 e (List.mem_filter.mp he).1
end HG

/-! over a tuple; popping a pair; appending to what is thrown away -/
namespace HG
open PySem PyProof.Rows L2 Evl HW
section
variable {α β γ : Type} {K : PySem.W.Frag} {C : Addr} {c : Cw} {Γ Δ : List Spec} {ta tb te tl td tx tk : TE} {t u : TT} {τ : Ty α} {θ : Ty β} {x : α} {y : β} {D : Ends} {tu tw tz ts : TS}
theorem en_lcT3 {r : Rw3} {j : Nat} (g : Int → α) (hl : EG c Γ tl aRow r) (he : ∀ b : Int, EG c (Γ.set j (.is aI b)) te τ (g b)) : EN c Γ (tLc (iTup K tl) (gName j) tYes te [j]) (oL τ) ([r.1, r.2.1, r.2.2].map g) := fun σ F Ms H w Q q =>
  hl σ F Ms H w _ fun v F1 H1 s1 ⟨a, u1, u2, u3, e, hp, r1, r2, r3⟩ => by
    subst e
    cases (show u1 = V.int r.1 from r1)
    cases (show u2 = V.int r.2.1 from r2)
    cases (show u3 = V.int r.2.2 from r3)
    have h1 : SqT K H1 a [V.int r.1, V.int r.2.1, V.int r.2.2] := .inl (.inl (s1.fh _ _ hp))
    have i1 : Its aI F1 [V.int r.1, V.int r.2.1, V.int r.2.2] [r.1, r.2.1, r.2.2] := .cons rfl (.cons rfl (.cons rfl .nil))
    refine ⟨a, rfl, ⟨_, h1⟩, fun D hD => ?_⟩
    refine lc_tup (K := K) (a := a) (xs := [V.int r.1, V.int r.2.1, V.int r.2.2]) (fun i H' => ∃ F', Lw τ F1 H1 D (((([r.1, r.2.1, r.2.2] : List Int).take i).filter fun _ => true).map g) F' H') ⟨F1, Lw.start s1.fh hD⟩ (fun i H' _ ⟨F', lw⟩ => .inl (.inl (lw.st.h _ _ (s1.fh _ _ hp)))) ?_ ?_
    · rintro i v H' hv ⟨F', lw⟩
      obtain ⟨b, hb, hr⟩ := pr_get i1 hv
      have hi : i < 3 := (List.getElem?_eq_some_iff.mp hb).1
      refine ⟨wipe1, lw_turn (w.step s1) lw hD ?_ (aI.up hr lw.st.f) (et_yes) (fun _ => he b) fun F2 H2 l2 => ⟨F2, by rw [filter_snoc (fun _ => true) g hb]; exact l2⟩⟩
      rw [List.length_map]
      exact Nat.lt_of_le_of_lt (List.length_filter_le _ _) (by rw [List.length_take]; omega)
    · rintro H' ⟨F', lw⟩
      exact lw.done s1 hD q
theorem em_popT1 {l : Kvs} {i : Nat} {k : KP} {n : Int} (h : Γ[i]? = some (.own oDT l)) (hk : EKP c Γ tk k) (hx : getP l k = some n) : EM c Γ (tBM K "dict" rPopT1 (tVar i) (tCons tk tNil)) (Γ.set i (.own oDT (dropP l k))) aI n := fun σ F Ms H w Q q => by
  obtain ⟨v, h1, p, e, m⟩ := w.ok i _ h
  subst e
  have hp := w.mx i p _ (by rw [m]; exact one_at)
  refine ⟨_, h1, .inr (.inr (.inl ⟨rfl, .inr ⟨_, hp⟩⟩)), hk σ F Ms H w _ fun b F1 H1 s1 r1 => ⟨p, _, keyP k, b, .int n, rfl, rfl, s1.h _ _ hp, r1, by rw [valV_bk, hx]; rfl, ?_⟩⟩
  rw [dropK_bk]
  exact q _ _ _ _ ((w.step s1).mut1 (κ' := oDT) (y := dropP l k) h m h1 ⟨p, rfl, rfl⟩) rfl
theorem eah_see {tr : TA} {Ss : List Spec} {b : Bk} (ha : EB C c Γ ta b) (hr : EAH c Γ tr Ss) : EAH c Γ (tCons ta tr) (.see (aBk C) b :: Ss) := fun σ F Ms H w Q q =>
  ha σ F Ms H w _ fun p d dx F1 H1 s1 B => hr σ F1 Ms H1 (w.step s1) _ fun vs F2 H2 s2 r2 => by
    have B2 := B.up s2.h
    exact q _ F2 H2 (s1.trans s2) ⟨⟨_, bkH C p d dx b, rfl, bkH_ex B2, p, d, dx, rfl, bkH_at B.ne⟩, r2⟩
theorem eg_appNew {l : List α} (ha : EN c Γ ta (oL τ) l) (hx : EG c Γ tx θ y) (hz : l.length < 100000) : EG c Γ (tBM K "list" rAppend ta (tCons tx tNil)) aN () := fun σ F Ms H w Q q =>
  ha σ F Ms H w _ fun v F1 M H1 s1 m n ⟨p, us, e, em, it⟩ => by
    subst e
    subst em
    have hp : H1 p = some (.lst us) := m _ _ one_at
    refine ⟨.inl ⟨rfl, us, .inl (.inl hp)⟩, hx σ F1 Ms H1 (w.step s1) _ fun u F2 H2 s2 r2 => ⟨p, us, u, rfl, rfl, s2.h _ _ hp, sz_lt (by rw [pr_len it]; exact hz), ?_⟩⟩
    have s := s1.trans s2
    have np := n p _ one_at
    have f2 : F2 p = none := none_of fun o ho => by have := s2.n p o ho np.2; rw [hp] at this; cases this
    refine q _ F2 _ ⟨s.f, fun a o e => ?_, fun a o e => ?_, s.n⟩ rfl
    · rw [upd_ne (fun z => by rw [z, np.1] at e; cases e)]; exact s.h _ _ e
    · rw [upd_ne (fun z => by rw [z, f2] at e; cases e)]; exact s.fh _ _ e
end
theorem getP_put (kvs : Kvs) (nd : (kvs.map (·.1)).Nodup) (k k' : KP) (c : Int) : getP (putP kvs k c) k' = if k = k' then some c else getP kvs k' := by
  have nd2 := put_keys (k := k) (c := c) nd
  by_cases e : k = k'
  · rw [if_pos e]; subst e
    exact getP_of nd2 (mem_put.mpr (.inl rfl))
  · rw [if_neg e]
    cases q : getP kvs k' with
    | some v => exact getP_of nd2 (mem_put.mpr (.inr ⟨getP_mem q, fun z => e z.symm⟩))
    | none =>
      cases q2 : getP (putP kvs k c) k' with
      | none => rfl
      | some v =>
        rcases mem_put.mp (getP_mem q2) with h | ⟨h, _⟩
        · exact absurd (congrArg (·.1) h).symm e
        · rw [getP_of nd h] at q; cases q
end HG

/-! texts of books -/
namespace HG
open PySem PyProof.Rows L2 Evl HW
def numS (i : Int) : Str := Str.ofString (toString i)
def addS (a b : Str) : Str := a ++ b
theorem addS_assoc (a b c : Str) : addS (addS a b) c = addS a (addS b c) := Str.ext' (by simp only [addS, Str.cps_append, Array.append_assoc])
theorem addS_len (a b : Str) : (addS a b).length = a.length + b.length := by simp [addS, Str.length, Str.cps_append]
theorem log_ok {i : Int} (h0 : 0 ≤ i) (h : i < 10 ^ 10) : i.natAbs.log2 < 1920 := by
  have h1 : i.natAbs < 2 ^ 34 := by omega
  have h2 : i.natAbs < 2 ^ 1920 := Nat.lt_of_lt_of_le h1 (Nat.pow_le_pow_right (by decide) (by decide))
  by_cases z : i.natAbs = 0
  · rw [z]; decide
  · exact (Nat.log2_lt z).mpr h2
theorem numS_len {i : Int} (h0 : 0 ≤ i) (h : i < 10 ^ 10) : (numS i).length ≤ 10 := toString_length_le h0 (by decide) h
section
variable {α β γ : Type} {K : PySem.W.Frag} {c : Cw} {Γ Δ : List Spec} {ta tb te : TE}
theorem eg_strI {i : Int} (h : EG c Γ ta aI i) (h0 : 0 ≤ i) (hz : i < 10 ^ 10) : EG c Γ (tCB (fun xs H Q => ∃ i, xs = [.int i] ∧ i.natAbs.log2 < 1920 ∧ Q (.str (toString i)) H) (tCons ta tNil)) aS (numS i) := fun σ F Ms H w Q q =>
  h σ F Ms H w _ fun v F1 H1 s1 r1 => ⟨i, by rw [show v = V.int i from r1], log_ok h0 hz, q _ F1 H1 s1 rfl⟩
theorem eg_addS {i j : Str} (ha : EG c Γ ta aS i) (hb : EG c Γ tb aS j) (hz : i.length + j.length ≤ 100000) : EG c Γ (tOp (fun x y H Q => ∃ i j, x = .str i ∧ y = .str j ∧ i.length + j.length ≤ sizeLine ∧ Q (.str (i ++ j)) H) ta tb) aS (addS i j) := eg_op ha hb (rg_val fun H Q q => ⟨i, j, rfl, rfl, sz_of hz, q⟩)
end
def nlS : Str := "\n"
def lineS (r : Rw3) : Str := addS (addS (addS (addS (numS r.1) " to ") (numS r.2.1)) " costs ") (numS r.2.2)
def headS (n : Int) : Str := addS "tellers " (numS n)
def textV (hd : Str) : List Str → Str
  | [] => hd
  | l :: r => textV (addS (addS hd nlS) l) r
def bookS (n : Int) (rows : List Rw3) : Str := textV (headS n) (rows.map lineS)
theorem textV_snoc (l : Str) : ∀ (ls : List Str) (hd : Str), textV hd (ls ++ [l]) = addS (addS (textV hd ls) nlS) l
  | [], hd => rfl
  | x :: r, hd => textV_snoc l r _
theorem textV_pre (a : Str) : ∀ (ls : List Str) (hd : Str), textV (addS a hd) ls = addS a (textV hd ls)
  | [], hd => rfl
  | x :: r, hd => by
    show textV (addS (addS (addS a hd) nlS) x) r = addS a (textV (addS (addS hd nlS) x) r)
    rw [addS_assoc a hd nlS, addS_assoc a (addS hd nlS) x]
    exact textV_pre a r _
theorem join_text : ∀ (ls : List Str) (hd : Str), Str.join nlS (hd :: ls) = textV hd ls
  | [], hd => rfl
  | x :: r, hd => by
    show addS (addS hd nlS) (Str.join nlS (x :: r)) = textV (addS (addS hd nlS) x) r
    rw [join_text r x, textV_pre]
theorem textV_len (ls : List Str) : ∀ (hd : Str), (∀ l ∈ ls, l.length ≤ 50) → (textV hd ls).length ≤ hd.length + ls.length * 51 := by
  induction ls with
  | nil => exact fun hd _ => by show hd.length ≤ _; omega
  | cons x r ih =>
    intro hd h
    have h1 := ih (addS (addS hd nlS) x) fun l hl => h l (List.mem_cons_of_mem _ hl)
    have h2 := h x List.mem_cons_self
    rw [addS_len, addS_len] at h1
    have h3 : nlS.length = 1 := by decide +kernel
    show (textV (addS (addS hd nlS) x) r).length ≤ _
    rw [List.length_cons, Nat.succ_mul]
    omega
/-- of numbers that are short -/
def Short (rows : List Rw3) : Prop := ∀ r ∈ rows, r.2.2 < 10 ^ 10
theorem lineS_len {r : Rw3} (h1 : 0 ≤ r.1 ∧ r.1 < 10 ^ 10) (h2 : 0 ≤ r.2.1 ∧ r.2.1 < 10 ^ 10) (h3 : 0 ≤ r.2.2 ∧ r.2.2 < 10 ^ 10) : (lineS r).length ≤ 50 := by
  unfold lineS
  rw [addS_len, addS_len, addS_len, addS_len]
  have := numS_len h1.1 h1.2
  have := numS_len h2.1 h2.2
  have := numS_len h3.1 h3.2
  have : (" to " : Str).length = 4 := by decide +kernel
  have : (" costs " : Str).length = 7 := by decide +kernel
  omega
theorem headS_len {n : Int} (h1 : 0 ≤ n) (h2 : n < 10 ^ 10) : (headS n).length ≤ 18 := by
  unfold headS
  rw [addS_len]
  have := numS_len h1 h2
  have : ("tellers " : Str).length = 8 := by decide +kernel
  omega
theorem GoodR.line {n : Int} {rows : List Rw3} (G : GoodR n rows) (S : Short rows) {r : Rw3} (h : r ∈ rows) : (0 ≤ r.1 ∧ r.1 < 10 ^ 10) ∧ (0 ≤ r.2.1 ∧ r.2.1 < 10 ^ 10) ∧ (0 ≤ r.2.2 ∧ r.2.2 < 10 ^ 10) := by
  have a := G.rg r h
  have b := G.c0 r h
  have d := S r h
  have e := G.n2
  exact ⟨⟨by omega, by omega⟩, ⟨by omega, by omega⟩, by omega, d⟩
section
variable {K : PySem.W.Frag} {c : Cw} {Γ : List Spec} {to te : TE}
theorem sum_le50 : ∀ ls : List Str, (∀ l ∈ ls, l.length ≤ 50) → (ls.map (·.length)).sum ≤ ls.length * 50
  | [], _ => Nat.zero_le _
  | x :: r, h => by
    have h1 := sum_le50 r fun l hl => h l (List.mem_cons_of_mem _ hl)
    have h2 := h x List.mem_cons_self
    rw [List.map_cons, List.sum_cons, List.length_cons, Nat.succ_mul]
    omega
theorem its_tS : ∀ {us : List V} {ls : List Str} {F : Hp}, Its aS F us ls → us = ls.map V.str
  | _, _, _, .nil => rfl
  | _, _, _, .cons r t => by rw [show _ = V.str _ from r, its_tS t]; rfl
theorem eg_join {ls : List Str} {sep : Str} (ho : EG c Γ to aS sep) (he : EX c Γ te aS ls) (hz : (ls.map (·.length)).sum + ls.length * sep.length ≤ 16777216) :
    EG c Γ (tM1 (fun x xs H Q => ∃ a p, ∃ ys : List Str, x = .str a ∧ xs = [.ref p] ∧ (SqL K H p (ys.map V.str) ∨ SqT K H p (ys.map V.str)) ∧ (ys.map (·.length)).sum + ys.length * a.length ≤ 16777216 ∧ Q (.str (Txt.join a ys)) H) to te) aS (Str.join sep ls) := fun σ F Ms H w Q q =>
  ho σ F Ms H w _ fun v F1 H1 s1 r1 => ⟨⟨sep, r1⟩, he σ F1 Ms H1 (w.step s1) _ fun a us F2 H2 s2 h2 i2 =>
    ⟨sep, a, ls, r1, rfl, .inl (.inl (.inl (by rw [← its_tS i2]; exact h2))), hz, q _ F2 H2 (s1.trans s2) (congrArg V.str (TL.join_eq sep ls))⟩⟩
end
theorem short_drawn (s : List Int) (n : Int) : Short (rowsV s n) := fun r hr => by
  unfold rowsV rowsN at hr
  obtain ⟨a, _, hr⟩ := List.mem_flatMap.mp hr
  obtain ⟨j, _, rfl⟩ := List.mem_map.mp hr
  have h1 := mostV_pos s
  have h2 : mostV s ≤ 1000001 := by
    unfold mostV
    have h1 : 0 ≤ cellV s 1 / 5 % 3 := Int.emod_nonneg _ (by decide)
    have h2 : cellV s 1 / 5 % 3 < 3 := Int.emod_lt_of_pos _ (by decide)
    have : (cellV s 1 / 5 % 3).toNat = 0 ∨ (cellV s 1 / 5 % 3).toNat = 1 ∨ (cellV s 1 / 5 % 3).toNat = 2 := by omega
    rcases this with e | e | e <;> rw [e] <;> decide
  have h3 : drawnV s (a : Int) (1 + (j : Int)) / 10 % mostV s < mostV s := Int.emod_lt_of_pos _ h1
  show drawnV s (a : Int) (1 + (j : Int)) / 10 % mostV s < 10 ^ 10
  omega
end HG

/-! try, except X as e; what kind an error is -/
namespace HG
open PySem PySem.Spec PyProof.Rows L2 Evl HW
/-! ### which classes are under which -/
def eqV2 (a b : Option (Option Value)) : Bool := decide (a = b)
/-- what isinstance asks of an error's class -/
def excB (K : PySem.W.Frag) (D : Addr) : Bool :=
  eqV2 (PySem.W.findIn K (.ref D) "__getattribute__") (some (some (.builtin "BaseException.__getattribute__"))) && (eqV2 (PySem.W.findIn K (.ref D) "__getattr__") (some none) && (decide (PySem.W.subIn K (.ref D) (.type "BaseException") = some true) &&
    (PySem.W.hasDictIn K D && (eqV2 (PySem.W.findIn K (.ref D) "__class__") (some (some (.builtin "object.__class__"))) && (eqV2 (PySem.W.specialIn K (.builtin "object.__class__") "__get__") (some (some (.builtin "getset_descriptor.__get__"))) &&
      (decide (PySem.W.takesIn K (.builtin "object.__class__") = some true) && decide (PySem.W.mroIn K D (.type "object") = some true)))))))
theorem excB_ok {K : PySem.W.Frag} {D : Addr} (h : excB K D = true) : ExcC K D := by
  unfold excB at h
  simp only [Bool.and_eq_true] at h
  obtain ⟨a, b, c, d, e, f, g, k⟩ := h
  exact ⟨of_decide_eq_true a, of_decide_eq_true b, of_decide_eq_true c, d, of_decide_eq_true e, of_decide_eq_true f, of_decide_eq_true g, of_decide_eq_true k⟩
/-- the first class is above all others -/
def xsub (i j : Nat) : Bool := i == j || j == 0
def xrowB (K : PySem.W.Frag) (ns : List Str) (x : Str) (i : Nat) : Bool := excB K (He.ga K x) && (decide (PySem.W.kitOne K (.ref (He.ga K x)) (.type "ValueError") = some true) &&
  ns.zipIdx.all fun y => decide (PySem.W.kitOne K (.ref (He.ga K x)) (.ref (He.ga K y.1)) = some (xsub i y.2)) && decide (PySem.W.exmOne K (.ref (He.ga K x)) (.ref (He.ga K y.1)) = some (xsub i y.2)))
def xallB (ns : List Str) (K : PySem.W.Frag) : Bool := ns.zipIdx.all fun x => xrowB K ns x.1 x.2
section
variable {K : PySem.W.Frag} {ns : List Str} {x y : Str} {i j : Nat}
theorem xall_row (h : xallB ns K = true) (hx : ns[i]? = some x) : xrowB K ns x i = true :=
  List.all_eq_true.mp h (x, i) (List.mem_of_getElem? (i := i) (by rw [List.getElem?_zipIdx, hx]; simp))
theorem xall_exc (h : xallB ns K = true) (hx : ns[i]? = some x) : ExcC K (He.ga K x) := by
  have z := xall_row h hx
  unfold xrowB at z
  simp only [Bool.and_eq_true] at z
  exact excB_ok z.1
theorem xall_val (h : xallB ns K = true) (hx : ns[i]? = some x) : PySem.W.kitOne K (.ref (He.ga K x)) (.type "ValueError") = some true := by
  have z := xall_row h hx
  unfold xrowB at z
  simp only [Bool.and_eq_true] at z
  exact of_decide_eq_true z.2.1
theorem xall_kit (h : xallB ns K = true) (hx : ns[i]? = some x) (hy : ns[j]? = some y) : PySem.W.kitOne K (.ref (He.ga K x)) (.ref (He.ga K y)) = some (xsub i j) ∧ PySem.W.exmOne K (.ref (He.ga K x)) (.ref (He.ga K y)) = some (xsub i j) := by
  have z := xall_row h hx
  unfold xrowB at z
  simp only [Bool.and_eq_true] at z
  have q := List.all_eq_true.mp z.2.2 (y, j) (List.mem_of_getElem? (i := j) (by rw [List.getElem?_zipIdx, hy]; simp))
  simp only [Bool.and_eq_true] at q
  exact ⟨of_decide_eq_true q.1, of_decide_eq_true q.2⟩
end
/-! ### isinstance of an error that is held -/
def rIsX (K : PySem.W.Frag) (cls : Value) (d : Option Addr) (a : Addr) : List V → Hp → VK → Prop := fun xs H Q => ∃ D, cls = .ref D ∧ d = none ∧ ExcC K D ∧ rIsE K D a xs H Q
theorem call_isX {X : Cx} {a : Addr} {oe : Obj} {cls : Value} {d : Option Addr} (hp : (a, oe) ∈ X.pn) (hz : Zc cls d oe) (hf : ∃ vs, oe.data = .fields vs) : CallR X (.builtin "isinstance") (rIsX X.K cls d a) := by
  rintro pins s σ H xs us Q I r ⟨D, rfl, rfl, C, c, cv, b, rfl, hcv, e, q⟩
  have hget := (I.pin (a, oe) (List.mem_append_left _ hp)).1
  obtain ⟨vs, hv⟩ := hf
  obtain ⟨oc, od, oda, osl⟩ := oe
  have z1 : oc = .ref D := hz.1
  have z2 : od = none := hz.2
  have z3 : oda = .fields vs := hv
  subst z1 z2 z3
  match r with
  | .cons rx (.cons rt .nil) =>
    cases rx
    cases hcv _ rt
    exact PySem.W.kia_one (PySem.W.handS_kitx_exc (x := a) C.hg C.hk C.hs C.hd C.ha C.hn C.ht C.hm) I.kIn ⟨hget, rfl, rfl, trivial⟩ e (fun z => nomatch z) fun tk => ⟨.bl b, H, I.kept (t' := tk) fun _ _ z => z, rfl, q⟩
theorem qb_isX {X : Cx} {K : PySem.W.Frag} {a : Addr} {oe : Obj} {cls : Value} {d : Option Addr} (hK : X.K = K) (hp : (a, oe) ∈ X.pn) (hz : Zc cls d oe) (hf : ∃ vs, oe.data = .fields vs) : CallR X (.builtin "isinstance") (rIsX K cls d a) := hK ▸ call_isX hp hz hf
theorem pe_xn {X : Cx} {K : PySem.W.Frag} {mg : Str → Option Value} {x : Str} {pos : Pos} (F : ExcF K mg x) (hm : X.mg = mg) (hg : Gl X x) (hd : (x == ("__debug__" : Str)) = false := by decide) : PE X (.Name x pos) (tC (.ref (He.ga K x))) := by
  subst hm
  exact pe_glob hg F.g rfl hd
/-! ### a call around which there is a try -/
/-- in the slots as they are -/
def XS (c : Cw) (Γ : List Spec) (te : TE) (E : L2.St → XK) (B : Addr) : Prop := ∀ σ F Ms H, Wd c Γ σ F Ms H → (∀ H', Hd c Γ σ H' → E σ (.ref B) none H') → ∀ Q, te σ H Q
section
variable {α β : Type} {K : PySem.W.Frag} {C : Addr} {c : Cw} {Γ Δ : List Spec} {ta te : TE} {τ : Ty α} {x : α} {D : Ends} {tz : TS}
variable {ι : Type} {Γp : ι → List Spec} {o : ι → Out} {pre : ι → Prop} {E : L2.St → XK} {tt : TA} {B : Addr}
theorem eg_callS (a : ι) (ha : EA c Γ tt (Γp a)) (hp : pre a) (ho : o a = .ret τ x) : EG c Γ (tCallS (Pm Γp o pre) E tt) τ x := fun σ F Ms H w Q q =>
  ha σ F Ms H w _ fun vs F1 H1 s1 r1 => by
    refine ⟨a, F1, hp, s1.fh, r1, ?_⟩
    rw [ho]
    intro v H' r
    obtain ⟨G, s2, r2⟩ := r.stp
    exact q v G H' (s1.trans s2) r2
theorem xs_callS (a : ι) (ha : EA c Γ tt (Γp a)) (hp : pre a) (ho : o a = .exc B) : XS c Γ (tCallS (Pm Γp o pre) E tt) E B := fun σ F Ms H w h Q =>
  ha σ F Ms H w _ fun vs F1 H1 s1 r1 => by
    refine ⟨a, F1, hp, s1.fh, r1, ?_⟩
    rw [ho]
    intro H' x
    have w1 := w.step s1
    exact h H' ⟨F1, Ms, w1.step (Stp.heap w1.fx x.fr)⟩
/-- the ends of an except suite: its name goes -/
def goneD (i : Nat) (D : Ends) : Ends := { nx := fun σ' H' => D.nx (σ'.set i none) H', rt := D.rt, bk := fun σ' H' => D.bk (σ'.set i none) H', ct := fun σ' H' => D.ct (σ'.set i none) H' }
theorem t_gone {i : Nat} (h : Tr c (Γ.set i .any) tz D) : Tr c Γ tNext (goneD i { D with nx := tz D }) := fun σ H ⟨F, Ms, w⟩ => h _ _ ⟨F, Ms, w.lose i none⟩
theorem t_goneE {i : Nat} {P : L2.St → Hp → Prop} (h : ∀ σ H, Hd c (Γ.set i .any) σ H → P (σ) H) (e : D.nx = P) : Tr c Γ tNext (goneD i D) := fun σ H ⟨F, Ms, w⟩ => by
  show D.nx _ H
  rw [e]
  exact h _ _ ⟨F, Ms, w.lose i none⟩
variable {cv : Value} {i j : Nat} {ts : Addr → Value → Option Addr → TS} {Wout : WX} {tb : WX → TE}
theorem XS.run {W : WX} (h : XS c Γ te (WE W) B) {σ : L2.St} {F H : Hp} {Ms : Nat → Hp} (w : Wd c Γ σ F Ms H) (k : ∀ H', Hd c Γ σ H' → W (.ref B) none σ H') (Q : VK) : te σ H Q := h σ F Ms H w k Q
/-- the body raises what is caught -/
theorem t_tryX (B : Addr) (h : ∀ W : WX, XS c Γ (tb W) (WE W) B) (hm : PySem.W.exmOne K (.ref B) cv = some true) (k : ∀ a, Tr c (Γ.set i (.is (aA a) ())) (ts a (.ref B) none) (goneD i { D with nx := tz D })) :
    Tr c Γ (tSeq (fun D σ H => tDrop (tb (wAs K cv i ts Wout D)) D σ H) tz) D := fun σ H ⟨F, Ms, w⟩ =>
  (h _).run w (fun H' ⟨F', Ms', w'⟩ => ⟨true, hm, fun _ a ha => k a _ _ ⟨F', Ms', w'.set (τ := aA a) (x := ()) i rfl⟩, fun z => nomatch z⟩) _
theorem t_tryXA (B : Addr) (h : ∀ W : WX, XS c Γ (tb W) (WE W) B) (hm : PySem.W.exmOne K (.ref B) cv = some true) (k : ∀ a, Tr c (Γ.set i (.is (aA a) ())) (ts a (.ref B) none) (goneD i { D with nx := tz D })) :
    Tr c Γ (tSeq (fun D σ H => tAsg (tb (wAs K cv i ts Wout D)) (gName j) D σ H) tz) D := fun σ H ⟨F, Ms, w⟩ =>
  (h _).run w (fun H' ⟨F', Ms', w'⟩ => ⟨true, hm, fun _ a ha => k a _ _ ⟨F', Ms', w'.set (τ := aA a) (x := ()) i rfl⟩, fun z => nomatch z⟩) _
/-- it raises nothing -/
theorem t_tryN (h : ∀ W : WX, EG c Γ (tb W) τ x) (k : Tr c Γ tz D) : Tr c Γ (tSeq (fun D σ H => tDrop (tb (wAs K cv i ts Wout D)) D σ H) tz) D := fun σ H ⟨F, Ms, w⟩ =>
  h _ σ F Ms H w _ fun v F' H' s r => k _ _ ⟨F', Ms, w.step s⟩
theorem t_tryNM (h : ∀ W : WX, EM c Γ (tb W) Δ τ x) (k : Tr c Δ tz D) : Tr c Γ (tSeq (fun D σ H => tDrop (tb (wAs K cv i ts Wout D)) D σ H) tz) D := fun σ H ⟨F, Ms, w⟩ =>
  h _ σ F Ms H w _ fun v F' Ms' H' w' r => k _ _ ⟨F', Ms', w'⟩
theorem t_tryNA (h : ∀ W : WX, EG c Γ (tb W) τ x) (k : Tr c (Γ.set j (.is τ x)) tz D) : Tr c Γ (tSeq (fun D σ H => tAsg (tb (wAs K cv i ts Wout D)) (gName j) D σ H) tz) D := fun σ H ⟨F, Ms, w⟩ =>
  h _ σ F Ms H w _ fun v F' H' s r => k _ _ ⟨F', Ms, (w.step s).set j r⟩
/-- isinstance(e, X) -/
theorem eg_isX {D : Addr} {cls : Value} {a : Addr} {cV : V} {u : Value} {b : Bool} (h : Γ[i]? = some (.is (aA a) ())) (hc : cls = .ref D) (C : ExcC K D) (hv : ∀ u', RelV cV u' → u' = u) (hk : PySem.W.kitOne K (.ref D) u = some b) :
    EG c Γ (tCB (rIsX K cls none a) (tCons (tVar i) (tCons (tC cV) tNil))) aB b := fun σ F Ms H w Q q => by
  obtain ⟨v, h1, h2⟩ := w.ok i _ h
  cases (show v = V.ref a from h2)
  exact ⟨_, h1, D, hc, rfl, C, cV, u, b, rfl, hv, hk, q _ F H (Stp.refl w.fx) rfl⟩
theorem relV_ref {a : Addr} : ∀ u', RelV (.ref a) u' → u' = .ref a := fun _ h => h
theorem relV_ty {n : String} : ∀ u', RelV (.ty n) u' → u' = .type n := fun _ h => h
/-- Book(n), refused, in a try -/
theorem passS {X : Cx} {W : WX} {n : Nat} (tk : Takes X W) (hn : X.N.length = n) : Passes (L2.CX X.prog X.w) X (fun cls d H => ∀ σ : L2.St, σ.length = n → W cls d σ H) := fun pins σ H s e s' I c =>
  tk e s' (XE.of_call I (fun cls d H' h => h σ (by rw [← hn]; exact I.len)) c)
theorem t_tryMk {m : Int} {N : Nat} (h : EG c Γ ta aI m) (hn : ¬ (1 ≤ m ∧ m ≤ 12)) (hm : PySem.W.exmOne K (.ref (He.ga K "NoBook")) cv = some true)
    (k : ∀ a, Tr c ((List.replicate N .any).set i (.is (aA a) ())) (ts a (.ref (He.ga K "NoBook")) none) (goneD i { D with nx := tz D })) :
    Tr c Γ (tSeq (fun D σ H => tDrop (tMake C (spInit K C) [] (fun cls d H => ∀ σ : L2.St, σ.length = N → wAs K cv i ts Wout D cls d σ H) (tCons ta tNil)) D σ H) tz) D := fun σ H ⟨F, Ms, w⟩ =>
  h σ F Ms H w _ fun v F1 H1 s1 r1 => fun p dx hp hdx ne => by
    have e0 : Ex H1 (upd (upd H1 dx (.own p)) p (.ins C dx [])) := Ex.mut (Ex.new hdx) hp
    refine ⟨p, dx, m, by rw [show v = V.int m from r1]; rfl, upd_same, fun k => (hn k).elim, fun _ H' e σ' hσ => ?_⟩
    have w1 := (w.step s1).step (Stp.heap s1.fh (e0.trans e))
    refine ⟨true, hm, fun _ a ha => k a _ _ ⟨F1, fun _ => none0, ?_⟩, fun z => nomatch z⟩
    refine Wd.set (τ := aA a) (x := ()) ?_ i rfl
    exact {
      len := by rw [List.length_replicate, hσ]
      fx := w1.fx
      fr := w1.fr
      af := w1.af
      fn := w1.fn
      dm := w1.dm
      mx := fun _ => ex_none0
      mf := fun _ _ _ q => nomatch q
      mr := fun _ _ _ q => nomatch q
      mj := fun _ _ _ q => nomatch q
      mm := fun _ _ _ _ _ q => nomatch q
      ok := fun j s hs => by
        have := List.mem_of_getElem? hs
        rw [(List.mem_replicate.mp this).2]
        trivial }
end
/-! ### a call by name in a try -/
section
variable {X : Cx} {k j : Nat} {x : Str} {sp : Sp} {p pos : Pos} {e : Expr} {es : List Expr} {t : TA} {E : L2.St → XK}
theorem pe_cS (c : Cal X.prog X.w X.K X.mg X.base k x sp) (hx : ∀ σ, PassesAt (L2.CX X.prog X.w) X σ (E σ)) (hr : Room j X.A) (hk : k ≤ j) (hg : Gl X x) (ha : PA X (e :: es) t) (hdb : (x == ("__debug__" : Str)) = false := by decide)
    (he : starEach (e :: es) X.env = (false, eval e X.env) :: starEach es X.env := by rfl) (hpl : (backTo pos (starEach es X.env)).any (·.1) = false := by rfl) : PE X (.Call (.Name x p) (e :: es) [] pos) (tCallS sp E t) := by
  obtain ⟨f, fd, ps, F, hm, hk', hb⟩ := c.ex
  exact pe_callS F (hr.mono hk) hg hm hk' hb hx ha hdb he hpl
end
/-! ### the head's facts and one Bool more -/
def obsY (n : Nat) (fa : List He.Fa) (fn : List He.FnD) (ex : PySem.W.Frag → Bool) (g : Addr → Option Obj) : Bool × He.Al := (ex (He.frG g (He.asG g n)), He.obsG n fa fn g)
def hookY (n : Nat) (fa : List He.Fa) (fn : List He.FnD) (ex : PySem.W.Frag → Bool) : PySem.W.Hook where
  α := Bool × He.Al
  obs := fun s => obsY n fa fn ex s.heap.get?
  val := fun _ => (true, He.valE fn)
  says := fun _ h => ∃ K : PySem.W.Frag, K.In h ∧ He.SaysE fa fn K ∧ ex K = true
  of := fun _ _ e => ⟨_, He.frG_in, congrArg (fun z : Bool × He.Al => z.2) e, congrArg (fun z : Bool × He.Al => z.1) e⟩
  keeps := fun _ _ _ ⟨K, hK, c, cx⟩ k => ⟨K, PySem.W.Frag.In.keeps hK k, c, cx⟩
theorem obsY_eq {n : Nat} {fa : List He.Fa} {fn : List He.FnD} {ex : PySem.W.Frag → Bool} {g : Addr → Option Obj} {s : Shared} (h : ∀ a, g a = s.heap.get? a) : obsY n fa fn ex g = (hookY n fa fn ex).obs s := by
  have e : g = s.heap.get? := funext h
  subst e
  rfl
end HG

/-! a look at all things as they are; a loop over a list in a thing of one's own that changes elsewhere -/
namespace HG
open PySem PyProof.Rows L2 Evl HW
/-- nothing changes while one looks -/
def stillS : Spec → Spec
  | .own κ x => .is κ.ty x
  | .see τ x => .is τ x
  | s => s
def still (Γ : List Spec) : List Spec := Γ.map stillS
section
variable {α β γ : Type} {K : PySem.W.Frag} {C : Addr} {c : Cw} {Γ Δ : List Spec} {ta tb te tl td tx : TE} {t u : TT} {τ : Ty α} {θ : Ty β} {x : α} {y : β} {D : Ends} {tu tw tz ts : TS}
theorem Wd.still {σ : L2.St} {F H : Hp} {Ms : Nat → Hp} (w : Wd c Γ σ F Ms H) : Wd (cw0 H H) (still Γ) σ H (fun _ => none0) H where
  len := by unfold HG.still; rw [List.length_map]; exact w.len
  fx := Ex.refl _
  fr := Ex.refl _
  af := Ex.refl _
  fn := fun a o h n => by rw [show (cw0 H H).A a = H a from rfl, h] at n; cases n
  dm := fun a k => k
  mx := fun _ => ex_none0
  mf := fun _ _ _ q => nomatch q
  mr := fun _ _ _ q => nomatch q
  mj := fun _ _ _ q => nomatch q
  mm := fun _ _ _ _ _ q => nomatch q
  ok := fun i s h => by
    unfold HG.still at h
    rw [List.getElem?_map] at h
    cases e : Γ[i]? with
    | none => rw [e] at h; cases h
    | some s0 =>
      rw [e] at h
      cases (show stillS s0 = s from Option.some.inj h)
      have z := w.ok i s0 e
      cases s0 with
      | any => trivial
      | is τ x => obtain ⟨v, h1, h2⟩ := z; exact ⟨v, h1, τ.up h2 w.fx⟩
      | own κ x => obtain ⟨v, h1, h2⟩ := z; exact ⟨v, h1, κ.fz h2 w.fx (w.mx i)⟩
      | see τ x => obtain ⟨v, B, h1, h2, h3⟩ := z; exact ⟨v, h1, τ.up h3 (h2.trans w.fr)⟩
theorem EG.still (fl : Flat τ) (h : ∀ d, EG d (still Γ) te τ x) : EG c Γ te τ x := fun σ F Ms H w Q q => h _ σ H _ H w.still Q fun v F' H' s r => q v F H' (Stp.heap w.fx s.h) (fl _ _ _ _ r)
theorem EGH.still (h : ∀ d, EG d (still Γ) te τ x) : EGH c Γ te τ x := fun σ F Ms H w Q q => h _ σ H _ H w.still Q fun v F' H' s r => q v F H' (Stp.heap w.fx s.h) (τ.up r s.fh)
theorem ET.still {b : Bool} (h : ∀ d, ET d (still Γ) t b) : ET c Γ t b := fun σ F Ms H w Q q => h _ σ H _ H w.still Q fun F' H' s => q F H' (Stp.heap w.fx s.h)
/-- another word for the same thing -/
theorem Wd.as {σ : L2.St} {F H : Hp} {Ms : Nat → Hp} (w : Wd c Γ σ F Ms H) {κ : Ob α} {κ' : Ob β} {i : Nat} (h : Γ[i]? = some (.own κ x)) (r : ∀ v, σ[i]? = some (some v) → κ.S x F v (Ms i) → κ'.S y F v (Ms i)) : Wd c (Γ.set i (.own κ' y)) σ F Ms H :=
  { w with
    len := by rw [List.length_set]; exact w.len
    ok := fun j s hs => by
      by_cases e : i = j
      · subst e
        rw [List.getElem?_set_self (List.getElem?_eq_some_iff.mp h).1] at hs
        cases Option.some.inj hs
        obtain ⟨v, h1, h2⟩ := w.ok i _ h
        exact ⟨v, h1, r v h1 h2⟩
      · rw [List.getElem?_set_ne e] at hs
        exact w.ok j s hs }
/-! ### a loop over a list that stands in the i-th slot's thing -/
theorem t_hd {D : Ends} (e : D.nx = Hd c Δ) (h : Wk Γ Δ) : Tr c Γ tNext D := fun σ H ⟨F, Ms, w⟩ => by
  show D.nx σ H
  rw [e]
  exact ⟨F, Ms, w.weak h⟩
theorem t_forO {κ : Addr → List V → Ob Nat} {i j : Nat} (hL : ∀ L us k F v M, (κ L us).S k F v M → M L = some (.lst us)) (hi : i < Γ.length) (hij : j ≠ i)
    (hl : ∀ σ F Ms H, Wd c Γ σ F Ms H → ∀ Q : VK, (∀ L us, Wd c (Γ.set i (.own (κ L us) 0)) σ F Ms H → Q (.ref L) H) → tl σ H Q)
    (hs : ∀ L us (k : Nat) u, us[k]? = some u → Tr c ((Γ.set i (.own (κ L us) k)).set j (.is aV u)) tu { D with nx := Hd c ((Γ.set i (.own (κ L us) (k + 1))).set j .any), ct := Hd c ((Γ.set i (.own (κ L us) (k + 1))).set j .any), bk := tz D })
    (hd : ∀ L us, Tr c ((Γ.set i (.own (κ L us) us.length)).set j .any) tz D) : Tr c Γ (tSeq (tFor (iList K tl) (gName j) tu) tz) D := fun σ H ⟨F, Ms, w⟩ => hl σ F Ms H w _ fun L us w1 => by
  have gi : ∀ k, ((Γ.set i (.own (κ L us) k)).set j .any)[i]? = some (.own (κ L us) k) := fun k => by
    rw [List.getElem?_set_ne hij, List.getElem?_set_self hi]
  have at1 : ∀ {k : Nat} {σ' : L2.St} {H' : Hp}, Hd c ((Γ.set i (.own (κ L us) k)).set j .any) σ' H' → SqL K H' L us := fun {k σ' H'} ⟨F', Ms', w'⟩ => by
    obtain ⟨v, _, r⟩ := w'.ok i _ (gi k)
    exact .inl (.inl (w'.mx i _ _ (hL _ _ _ _ _ _ r)))
  have w2 : Hd c ((Γ.set i (.own (κ L us) 0)).set j .any) σ H := by
    refine ⟨F, Ms, w1.weak ?_⟩
    have : ∀ (l : List Spec) (m : Nat), Wk l (l.set m .any) := by
      intro l
      induction l with
      | nil => intro m; trivial
      | cons a r ih =>
        intro m
        cases m with
        | zero => exact ⟨.inl rfl, wk_refl r⟩
        | succ m => exact ⟨.inr rfl, ih m⟩
    exact this _ _
  refine ⟨L, rfl, ⟨us, at1 w2⟩, for_list (K := K) (a := L) (xs := us) (fun k σ' H' => Hd c ((Γ.set i (.own (κ L us) k)).set j .any) σ' H') w2 (fun k σ' H' _ h' => at1 h') ?_ ?_⟩
  · rintro k v σ' H' hv ⟨F', Ms', w'⟩
    have := w'.set (τ := aV) (x := v) (v := v) j rfl
    rw [List.set_set] at this
    exact hs L us k v hv _ _ ⟨F', Ms', this⟩
  · intro σ' H' h'
    exact hd L us σ' H' h'
end
end HG

/-! a thing of one's own that is handed to a def to be changed; defs called where an error is held -/
namespace HG
open PySem PySem.Spec PyProof.Rows L2 Evl HW
def delM (H M : Hp) : Hp := fun a => match M a with
  | some _ => none
  | none => H a
theorem delM_in {H M : Hp} {a : Addr} {o : HO} (h : M a = some o) : delM H M a = none := by unfold delM; rw [h]
theorem delM_out {H M : Hp} {a : Addr} (h : M a = none) : delM H M a = H a := by unfold delM; rw [h]
theorem delM_ex {H M : Hp} : Ex (delM H M) H := fun a o h => by
  cases e : M a with
  | none => rw [delM_out e] at h; exact h
  | some u => rw [delM_in e] at h; cases h
/-- around a def that changes the thing of M, which its first slot holds -/
def cwM (A H M : Hp) : Cw := ⟨A, delM H M, fun a => ∃ o, H a = some o, fun i => i = 0⟩
section
variable {α β γ : Type} {K : PySem.W.Frag} {C : Addr} {c : Cw} {Γ Δ : List Spec} {ta tb te tl td tx : TE} {t u : TT} {τ : Ty α} {θ : Ty β} {ρ : Ty γ} {x : α} {y : β} {z : γ} {D : Ends} {tu tw tz ts : TS}
theorem aok_none {F H : Hp} : ∀ {Ss : List Spec} {vs : List V}, (∀ s ∈ Ss, ∃ (δ : Type) (τ : Ty δ) (x : δ), s = .is τ x) → AOk F H Ss vs → AOk F none0 Ss vs
  | [], [], _, _ => trivial
  | s :: Ss, v :: vs, k, h => by
    obtain ⟨δ, τ, x, rfl⟩ := k s List.mem_cons_self
    exact ⟨h.1, aok_none (fun s hs => k s (List.mem_cons_of_mem _ hs)) h.2⟩
theorem enterM {A H M : Hp} {N : List Str} {Ss : List Spec} {vs : List V} {v : V} {κ : Ob α} {x : α} (e : Ex A H) (hA : ∀ a o, M a = some o → A a = none) (hM : Ex M H) (r : κ.S x A v M) (h : AOk A none0 Ss vs) (hn : Ss.length + 1 ≤ N.length) :
    Hd (cwM A H M) (entS N (.own κ x :: Ss)) (L2.start N (v :: vs)) H := by
  refine ⟨A, updM (fun _ => none0) 0 M, ?_⟩
  have cell : ∀ i a u, updM (fun _ => none0) 0 M i a = some u → i = 0 ∧ M a = some u := fun i a u z => by
    by_cases c : i = 0
    · rw [c, updM_same] at z
      exact ⟨c, z⟩
    · rw [updM_ne c] at z; cases z
  have hl := h.len
  have hn' : (Spec.own κ x :: Ss).length ≤ N.length := hn
  exact {
    len := by
      rw [entS_eq N (.own κ x :: Ss) hn']
      unfold L2.start
      simp [hl]
    fx := e
    fr := delM_ex
    af := Ex.refl _
    fn := fun a u z n => by rw [show (cwM A H M).A a = A a from rfl, z] at n; cases n
    dm := fun a k => k
    mx := fun i a u z => hM _ _ (cell i a u z).2
    mf := fun i a u z => hA _ _ (cell i a u z).2
    mr := fun i a u z => delM_in (cell i a u z).2
    mj := fun i a u z _ => (cell i a u z).1
    mm := fun i k a u n z => none_of fun u' z' => n ((cell i a u z).1.trans (cell k a u' z').1.symm)
    ok := fun i s hs' => by
      rw [entS_eq N (.own κ x :: Ss) hn'] at hs'
      by_cases c : i < (Spec.own κ x :: Ss).length
      · rw [List.getElem?_append_left c] at hs'
        unfold L2.start
        rw [List.getElem?_append_left (by rw [List.length_map]; simpa [hl] using c), List.getElem?_map]
        cases i with
        | zero =>
          cases Option.some.inj hs'
          rw [updM_same]
          exact ⟨v, rfl, r⟩
        | succ i =>
          obtain ⟨v', h1, h2⟩ := h.get (i := i) (by simpa using hs')
          rw [List.getElem?_cons_succ, h1, updM_ne (Nat.succ_ne_zero i)]
          exact h2.up (Ex.refl _) ex_none0
      · rw [List.getElem?_append_right (Nat.le_of_not_lt c)] at hs'
        have := List.mem_of_getElem? hs'
        rw [(List.mem_replicate.mp this).2]
        trivial }
/-- handed back, the thing changed; an error, the thing as told -/
structure RetM (c : Cw) (τ : Ty α) (x : α) (κ : Ob β) (y : β) (v : V) (H' : Hp) : Prop where
  ex : ∃ G M w, Ex c.A G ∧ Ex G H' ∧ (∀ a o, G a = some o → c.A a = none → ¬ c.N a) ∧ τ.R x G v ∧ Ex M H' ∧ (∀ a o, M a = some o → G a = none ∧ c.Fr a = none) ∧ κ.S y G w M
  fr : Ex c.Fr H'
  dm : ∀ a, c.N a → ∃ o, H' a = some o
def ExcM (c : Cw) (κ : Ob β) (y : β) (H' : Hp) : Prop := RetM c aN () κ y .non H'
theorem Wd.retM {σ : L2.St} {F H : Hp} {Ms : Nat → Hp} (w : Wd c Γ σ F Ms H) {κ : Ob β} {j : Nat} (hj : Γ[j]? = some (.own κ y)) {v : V} (r : τ.R x F v) : RetM c τ x κ y v H := by
  obtain ⟨v', h1, h2⟩ := w.ok j _ hj
  exact ⟨⟨F, Ms j, v', w.af, w.fx, w.fn, r, w.mx j, fun a o h => ⟨w.mf j a o h, w.mr j a o h⟩, h2⟩, w.fr, w.dm⟩
theorem Hd.excM {σ : L2.St} {H : Hp} {κ : Ob β} {j : Nat} (h : Hd c Γ σ H) (hj : Γ[j]? = some (.own κ y)) : ExcM c κ y H := by
  obtain ⟨F, Ms, w⟩ := h
  exact w.retM hj rfl
theorem t_retMO {κ : Ob β} (j : Nat) (hj : Γ[j]? = some (.own κ y)) (h : EG c Γ te τ x) (q : ∀ v H', RetM c τ x κ y v H' → D.rt v H') : Tr c Γ (tRet te) D := fun σ H ⟨F, Ms, w⟩ => h σ F Ms H w _ fun v F' H' s r => q v H' ((w.step s).retM hj r)
theorem t_fallM {κ : Ob β} {Q : VK} (j : Nat) (hj : Γ[j]? = some (.own κ y)) (q : ∀ v H', RetM c aN () κ y v H' → Q v H') (e : D.nx = fun _ H => Q .non H) : Tr c Γ tNext D := fun σ H ⟨F, Ms, w⟩ => by
  show D.nx σ H
  rw [e]
  exact q _ _ (w.retM hj (v := .non) rfl)
/-- what raises, as the slots then stand -/
def XH (c : Cw) (Γ : List Spec) (te : TE) (E : XK) (B : Addr) : Prop := ∀ σ F Ms H, Wd c Γ σ F Ms H → (∀ H', Hd c Γ σ H' → E (.ref B) none H') → ∀ Q, te σ H Q
theorem XG.hd {E : XK} {B : Addr} (h : ∀ d, XG d (HG.still Γ) te E B) : XH c Γ te E B := fun σ F Ms H w k Q => h _ σ H _ H w.still (fun H' x => k H' ⟨F, Ms, w.step (Stp.heap w.fx x.fr)⟩) Q
theorem t_dropXH {E : XK} {B : Addr} (h : XH c Γ te E B) (q : ∀ σ H', Hd c Γ σ H' → E (.ref B) none H') : Tr c Γ (tSeq (tDrop te) tz) D := fun σ H ⟨F, Ms, w⟩ => h σ F Ms H w (q σ) _
theorem t_dropXH1 {E : XK} {B : Addr} (h : XH c Γ te E B) (q : ∀ σ H', Hd c Γ σ H' → E (.ref B) none H') : Tr c Γ (tDrop te) D := fun σ H ⟨F, Ms, w⟩ => h σ F Ms H w (q σ) _
/-- a thing whose place is known changes as one whose place is not -/
theorem EM.at {κ : Ob β} {y' : β} {v0 : V} {i : Nat} (h : Γ[i]? = some (.own (κ.at v0) y)) (hm : EM c (Γ.set i (.own κ y)) te (Γ.set i (.own κ y')) τ x) : EM c Γ te (Γ.set i (.own (κ.at v0) y')) τ x := fun σ F Ms H w Q q => by
  obtain ⟨v, h1, h2, _⟩ := w.ok i _ h
  have hi := (List.getElem?_eq_some_iff.mp h).1
  refine hm σ F Ms H (w.as h fun v' hv' r => r.2) Q fun u F' Ms' H' w' r' => q u F' Ms' H' ?_ r'
  have := w'.as (κ' := κ.at v0) (y := y') (i := i) (by rw [List.getElem?_set_self hi]) fun v' hv' r => ⟨by rw [h1] at hv'; rw [← h2]; exact (Option.some.inj (Option.some.inj hv')).symm, r⟩
  rwa [List.set_set] at this
end
/-! ### promises -/
inductive OutO (α : Type) : Type 1 where
  | ret {β : Type} (τ : Ty β) (z : β) (y : α)
  | exc (B : Addr) (y : α)
def OutO.Sat {α : Type} (κ : Ob α) (c : Cw) (Q : VK) (E : XK) : OutO α → Prop
  | .ret τ z y => ∀ v H', RetM c τ z κ y v H' → Q v H'
  | .exc B y => ∀ H', ExcM c κ y H' → E (.ref B) none H'
def PmO {ι α : Type} (κ : Ob α) (x : ι → α) (Γ : ι → List Spec) (o : ι → OutO α) (pre : ι → Prop) : Sp := fun vs H Q E => ∃ (a : ι) (A M : Hp) (v : V) (us : List V), vs = v :: us ∧ pre a ∧ Ex A H ∧ (∀ b o, M b = some o → A b = none) ∧ Ex M H ∧ κ.S (x a) A v M ∧ AOk A none0 (Γ a) us ∧ (o a).Sat (κ.at v) (cwM A H M) Q E
section
variable {P : Program} {w : World} {K : PySem.W.Frag} {mg : Str → Option Value} {base : Heap}
theorem okO {ι α : Type} {κ : Ob α} {x : ι → α} {n qual : Str} {st : Stmt} {f : Addr} {fd : FuncData} {N ps : List Str} {k : Nat} {Γ : ι → List Spec} {o : ι → OutO α} {pre : ι → Prop} (F : FunX K n qual st f fd) (S : FnScope N ps (defScope st)) (len : ∀ a, (Γ a).length + 1 = ps.length)
    (hbody : ∀ (cdv : Value) (A : Around) (outer : List Env) (s : Shared) (H : Hp) (Q : VK) (E : XK) (a : ι) (A0 M : Hp) (v : V), Room k (A.deeper (envOfC qual (defScope st) s.heap.objs.size f cdv)) → pre a → (o a).Sat (κ.at v) (cwM A0 H M) Q E →
      ∃ t, PSs (cxOf (L2.CX P w) P w K mg base N qual (defScope st) f cdv A outer s H E) (defBody st) t ∧ Tr (cwM A0 H M) (entS N (.own (κ.at v) (x a) :: Γ a)) t { nx := fun _ H' => Q .non H', rt := Q }) (hl : ps.length ≤ N.length := by decide) :
    FnOk P w K mg base (L2.CX P w) (k + 1) f fd ps (PmO κ x Γ o pre) := by
  obtain ⟨oc, od, kV, doc, pm, an, cdv, ct, osl, rfl, lk, hcd⟩ := F.ex
  refine fn_of lk hcd S (fun vs H Q E ⟨a, A, M, v, us, e, _, _, _, _, _, h, _⟩ => by rw [e, List.length_cons, ← h.len, len a]) fun A outer s H vs Q E hr hsp => ?_
  obtain ⟨a, A0, M, v, us, rfl, hp, hx, hA, hM, r, ha, hs⟩ := hsp
  obtain ⟨t, h, q⟩ := hbody cdv A outer s H Q E a A0 M v hr hp hs
  exact ⟨t, h, q _ _ (enterM hx hA hM (κ := κ.at v) ⟨rfl, r⟩ ha (by rw [len a]; exact hl))⟩
end
section
variable {α β : Type} {c : Cw} {Γ : List Spec} {κ : Ob α} {ι : Type} {xp : ι → α} {Γp : ι → List Spec} {o : ι → OutO α} {pre : ι → Prop} {tt : TA} {τ : Ty β} {z : β} {y : α} {i : Nat} {E : XK} {B : Addr}
theorem Wd.backM {σ : L2.St} {F H H' : Hp} {Ms : Nat → Hp} (w : Wd c Γ σ F Ms H) {x : α} (h : Γ[i]? = some (.own κ x)) {v0 v : V} (hv : σ[i]? = some (some v0)) (r : RetM (cwM F H (Ms i)) τ z (κ.at v0) y v H') : ∃ F' Ms', Wd c (Γ.set i (.own κ y)) σ F' Ms' H' ∧ τ.R z F' v := by
  obtain ⟨G, M, w', g1, g2, g3, g4, g5, g6, e, g7⟩ := r.ex
  obtain ⟨v', k1, k2, k3, kk⟩ := w.mut (κ' := κ) (y := y) h
  have ev : v' = v0 := by rw [hv] at k1; exact (Option.some.inj (Option.some.inj k1)).symm
  subst ev
  subst e
  refine ⟨G, _, kk M G H' g1 g5 (fun a o ha hn => ?_) (fun a ⟨o, ho⟩ => r.dm a ⟨o, w.mx i _ _ ho⟩) (fun a o ho => ?_) (fun a o ho => (g6 a o ho).1) g2 (fun a o ho hn => none_of fun u hu => g3 a o ho hn ⟨u, hu⟩) g7, g4⟩
  · exact r.fr a o (by show delM H (Ms i) a = some o; rw [delM_out hn]; exact ha)
  · have z := (g6 a o ho).2
    cases q : Ms i a with
    | some u => exact .inl ⟨u, rfl⟩
    | none => exact .inr (by rw [show (cwM F H (Ms i)).Fr a = delM H (Ms i) a from rfl, delM_out q] at z; exact z)
theorem em_callO (a : ι) (h : Γ[i]? = some (.own κ (xp a))) (ha : EA c Γ tt (Γp a)) (hi : ∀ s ∈ Γp a, ∃ (δ : Type) (τ : Ty δ) (x : δ), s = .is τ x) (hp : pre a) (ho : o a = .ret τ z y) : EM c Γ (tCall (PmO κ xp Γp o pre) [] E (tCons (tVar i) tt)) (Γ.set i (.own κ y)) τ z := fun σ F Ms H w Q q => by
  obtain ⟨v, h1, h2⟩ := w.ok i _ h
  refine ⟨v, h1, ha σ F Ms H w _ fun us F1 H1 s1 r1 => ?_⟩
  have w1 := w.step s1
  refine ⟨a, F1, Ms i, v, us, by rw [List.append_nil], hp, w1.fx, w1.mf i, w1.mx i, κ.up h2 s1.f, aok_none hi r1, ?_⟩
  rw [ho]
  intro u H' r
  obtain ⟨F', Ms', w', r'⟩ := w1.backM h h1 r
  exact q u F' Ms' H' w' r'
theorem em_callOS {W : WX} (a : ι) (h : Γ[i]? = some (.own κ (xp a))) (ha : EA c Γ tt (Γp a)) (hi : ∀ s ∈ Γp a, ∃ (δ : Type) (τ : Ty δ) (x : δ), s = .is τ x) (hp : pre a) (ho : o a = .ret τ z y) : EM c Γ (tCallS (PmO κ xp Γp o pre) (WE W) (tCons (tVar i) tt)) (Γ.set i (.own κ y)) τ z := fun σ F Ms H w Q q => by
  obtain ⟨v, h1, h2⟩ := w.ok i _ h
  refine ⟨v, h1, ha σ F Ms H w _ fun us F1 H1 s1 r1 => ?_⟩
  have w1 := w.step s1
  refine ⟨a, F1, Ms i, v, us, rfl, hp, w1.fx, w1.mf i, w1.mx i, κ.up h2 s1.f, aok_none hi r1, ?_⟩
  rw [ho]
  intro u H' r
  obtain ⟨F', Ms', w', r'⟩ := w1.backM h h1 r
  exact q u F' Ms' H' w' r'
theorem xs_callO {W : WX} (a : ι) (h : Γ[i]? = some (.own κ (xp a))) (ha : EA c Γ tt (Γp a)) (hi : ∀ s ∈ Γp a, ∃ (δ : Type) (τ : Ty δ) (x : δ), s = .is τ x) (hp : pre a) (ho : o a = .exc B (xp a)) : XS c Γ (tCallS (PmO κ xp Γp o pre) (WE W) (tCons (tVar i) tt)) (WE W) B := fun σ F Ms H w k Q => by
  obtain ⟨v, h1, h2⟩ := w.ok i _ h
  refine ⟨v, h1, ha σ F Ms H w _ fun us F1 H1 s1 r1 => ?_⟩
  have w1 := w.step s1
  refine ⟨a, F1, Ms i, v, us, rfl, hp, w1.fx, w1.mf i, w1.mx i, κ.up h2 s1.f, aok_none hi r1, ?_⟩
  rw [ho]
  intro H' r
  obtain ⟨F', Ms', w', _⟩ := w1.backM h h1 r
  rw [set_same h] at w'
  exact k H' ⟨F', Ms', w'⟩
end
/-! ### defs called where an error is held: it is handed in -/
structure FnZ (P : Program) (w : World) (K : PySem.W.Frag) (mg : Str → Option Value) (base : Heap) (k : Nat) (f : Addr) (fd : FuncData) (ps : List Str) (sp : Value → Option Addr → Addr → Sp) : Prop where
  len : ∀ cls d a vs H Q E, sp cls d a vs H Q E → vs.length = ps.length
  run : ∀ (A : Around) (outer : List Env) (s : Shared) (H : Hp) (us : List Value) (vs : List V) (Q : VK) (p : Addr × Obj) (cls : Value) (d : Option Addr), L2H.RoomH k A → Zc cls d p.2 → (∃ fs, p.2.data = .fields fs) → L2H.PinOk outer H s p →
    Env0 P w K mg base A outer s H → BindsTo s fd ⟨us, []⟩ (ps.zip us) → Vals vs us → sp cls d p.1 vs H Q E0 → codeAny (model P w) A (.call (.ref f) ⟨us, []⟩) (CR (L2.CX P w) outer P w H s Q E0) s
structure CalZ (P : Program) (w : World) (K : PySem.W.Frag) (mg : Str → Option Value) (base : Heap) (k : Nat) (x : Str) (sp : Value → Option Addr → Addr → Sp) : Prop where
  ex : ∃ (f : Addr) (fd : FuncData) (ps : List Str), FnZ P w K mg base k f fd ps sp ∧ mg x = some (.ref f) ∧ PySem.W.keepIn K (.ref f) = true ∧ Binds K fd ps []
section
variable {P : Program} {w : World} {K : PySem.W.Frag} {mg : Str → Option Value} {base : Heap}
theorem okZ {n qual : Str} {st : Stmt} {f : Addr} {fd : FuncData} {N ps : List Str} {k : Nat} {sp : Value → Option Addr → Addr → Sp} (F : FunX K n qual st f fd) (S : FnScope N ps (defScope st)) (len : ∀ cls d a vs H Q E, sp cls d a vs H Q E → vs.length = ps.length)
    (hbody : ∀ (cdv : Value) (A : Around) (outer : List Env) (s : Shared) (H : Hp) (vs : List V) (Q : VK) (a : Addr) (oe : Obj) (cls : Value) (d : Option Addr), Zc cls d oe → (∃ fs, oe.data = .fields fs) → sp cls d a vs H Q E0 →
      ∃ t, PSs (L2H.cxH (L2.CX P w) P w K mg base N qual (defScope st) f cdv A outer s H E0 (a, oe)) (defBody st) t ∧ t { nx := fun _ H' => Q .non H', rt := Q } (L2.start N vs) H) : FnZ P w K mg base (k + 1) f fd ps sp := by
  obtain ⟨oc, od, kV, doc, pm, an, cdv, ct, osl, rfl, lk, hcd⟩ := F.ex
  refine ⟨len, ?_⟩
  rintro A outer s H us vs Q ⟨a, oe⟩ cls d hr hz hf hpin e0 hb r hsp
  have KX : K.In s.heap := e0.mod.kin.keeps fun b o e => (e0.bs b o e).1
  have nl : s.heap.NoLimit := e0.mod.nolimit.keeps fun b o e => (e0.bs b o e).1
  refine codeAny_call_function hr.depth (KX _ _ lk) rfl S.co S.gen rfl (PySem.W.codeRec_of KX hcd) (hb _ _ _ _ ?_)
  refine wpAny_newFunctionEnv_cells S.kind (fun y hy => ?_) fun env he s1 x => ?_
  · rcases S.par y.1 (List.of_mem_zip hy).1 with q | q
    · exact .inl q
    · exact .inr ⟨q, PySem.W.cellsFrom_some _ _ _ (.inl q)⟩
  subst he
  refine ⟨nl.keeps x.toInCall.keep, codeAny_func ?_⟩
  obtain ⟨t, ht, hq⟩ := hbody cdv A outer s H vs Q a oe cls d hz hf hsp
  have I := L2H.inv_startH (CX := L2.CX P w) (K := K) (mg := mg) (base := base) (qual := qual) (f := f) (cd := cdv) (A := A) (E := E0) S hpin e0 (len _ _ _ _ _ _ _ hsp) r x
  refine wpAny_mono (ht.run [] s1 (L2.start N vs) H _ I hq) (fun fl s' hs => ?_) fun e s' hs => hs
  cases fl with
  | ret u =>
    obtain ⟨v, σ', H', J, rv, q⟩ := hs
    exact ⟨v, H', J.os, J.bare, J.base, J.hok, rv, q⟩
  | next =>
    obtain ⟨σ', H', J, q⟩ := hs
    exact ⟨V.non, H', J.os, J.bare, J.base, J.hok, rfl, q⟩
  | brk => obtain ⟨_, _, _, z⟩ := hs; exact z.elim
  | cont => obtain ⟨_, _, _, z⟩ := hs; exact z.elim
end
section
variable {X : Cx} {k j : Nat} {a : Addr} {oe : Obj} {cls : Value} {d : Option Addr} {x : Str} {sp : Value → Option Addr → Addr → Sp} {p pos : Pos} {e : Expr} {es : List Expr} {t : TA}
theorem roomZ {k : Nat} {A : Around} {h : Option Value} (r : Room k A) : L2H.RoomH k (A.mark h) := ⟨r.dp, r.un⟩
def tCallZ (sp : Value → Option Addr → Addr → Sp) (cls : Value) (d : Option Addr) (a : Addr) (t : TA) : TE := fun σ H Q => t σ H fun vs H1 => sp cls d a vs H1 Q E0
theorem pe_cZ {P : Program} {w : World} {K : PySem.W.Frag} {mg : Str → Option Value} {base : Heap} (c : CalZ P w K mg base k x sp) (hP : X.prog = P) (hw : X.w = w) (hK : X.K = K) (hm' : X.mg = mg) (hB : X.base = base) (hp : (a, oe) ∈ X.pn) (hz : Zc cls d oe) (hf : ∃ fs, oe.data = .fields fs) (hr : L2H.RoomH j X.A) (hk : k ≤ j) (hg : Gl X x) (ha : PA X (e :: es) t) (hdb : (x == ("__debug__" : Str)) = false := by decide)
    (he : starEach (e :: es) X.env = (false, eval e X.env) :: starEach es X.env := by rfl) (hpl : (backTo pos (starEach es X.env)).any (·.1) = false := by rfl) : PE X (.Call (.Name x p) (e :: es) [] pos) (tCallZ sp cls d a t) := by
  subst hP hw hK hm' hB
  obtain ⟨f, fd, ps, F, hm, hk', hb⟩ := c.ex
  refine ⟨fun pins s σ H Q I h => ?_⟩
  refine wpAny_Call_Name_kw (ld_glob I hg hm ?_ hdb)
  refine PySem.W.callWith_K (h₀ := X.base) I.ok.mod.kin hk' (thn (ha.run pos pins s σ H _ I h) fun us s1 ⟨vs, H1, I1, r, q⟩ => ⟨I1.kIn, ?_⟩) he hpl
  have b := hb s1 us I1.kIn (by rw [List.append_nil, ← r.length]; exact F.len _ _ _ _ _ _ _ q)
  rw [List.append_nil] at b
  obtain ⟨p1, p2, p3, p4, p5⟩ := I1.pin (a, oe) (List.mem_append_left _ hp)
  have hpin : L2H.PinOk X.stack H1 s1 (a, oe) := ⟨p1, p2, fun hm => (List.mem_cons.mp (I1.stkSub a hm)).elim p3 p4, p5⟩
  refine wpAny_call (codeAny_mono (F.run X.A X.stack s1 H1 us vs Q (a, oe) cls d (hr.mono hk) hz hf hpin I1.env0 b r q) fun r s' hq => ?_)
  match r, hq with
  | .error e, hq => exact passL pins σ H1 s1 e s' I1 hq
  | .ok (.ret u), hq => exact I1.after hq
  | .ok .next, hq => exact hq.elim
  | .ok .brk, hq => exact hq.elim
  | .ok .cont, hq => exact hq.elim
end
end HG

/-! list.count of plain values -/
namespace HG
open PySem PySem.Spec PyProof.Rows L2 Evl HW
def rCntF (K : PySem.W.Frag) : V → List V → Hp → VK → Prop := fun x xs H Q => ∃ (p : Addr) (ys : List V) (y : V), x = .ref p ∧ xs = [y] ∧ SqL K H p ys ∧ flatV y = true ∧ ys.all flatV = true ∧ Q (.int (ys.countP fun z => eqV z y : Nat)) H
theorem cnt_eq {y : V} : ∀ {ys : List V} {us : List Value}, Vals ys us → ys.all flatV = true → us.countP (eqU y) = ys.countP fun z => eqV z y
  | _, _, .nil, _ => rfl
  | z :: ys, u :: us, .cons r t, h => by
    rw [List.all_cons, Bool.and_eq_true] at h
    rw [List.countP_cons, List.countP_cons, cnt_eq t h.2, eqU_of r h.1]
theorem mt_lcountF {X : Cx} : MtR X "list.count" (rCntF X.K) := by
  rintro pins s σ H x xs v us Q I rx rxs ⟨p, ys, y, rfl, rfl, hs, fy, fys, q⟩
  cases rx
  obtain ⟨u, rfl, ru⟩ := rxs.one
  obtain ⟨its, rv, ⟨⟨cls, dd, data, sl⟩, n, ho, hc, hdn, hd⟩, hlen⟩ := I.list hs
  have z1 : cls = .type "list" := hc
  subst z1
  have z2 := hd
  simp only at z2
  subst z2
  have at2 := SeqAt.list_countAt p its.toArray n dd sl u (eqU y)
  refine call_meets PySem.F.slot_list_count ⟨_, ho, rfl⟩ PySem.F.entry_list_count (PySem.F.args_list_count_2 _ _) at2 ⟨ho, fun u' hu' => mem_eqAt ru fy rv fys u' (by simpa using hu'), ?_⟩
  refine ⟨.int (ys.countP fun z => eqV z y : Nat), H, I.tok _, ⟨s.toks, ?_⟩, q⟩
  rw [← cnt_eq rv fys]
theorem qm_countF {X : Cx} {K : PySem.W.Frag} (hK : X.K = K) : MtR X "list.count" (rCntF K) := hK ▸ mt_lcountF
section
variable {K : PySem.W.Frag} {c : Cw} {Γ : List Spec} {ta tb : TE}
theorem eg_countB {l : List Bool} {b : Bool} (ha : EL K c Γ ta aB l) (hb : EG c Γ tb aB b) : EG c Γ (tBM K "list" (rCntF K) ta (tCons tb tNil)) aI ((l.count b : Nat) : Int) := fun σ F Ms H w Q q =>
  ha σ F Ms H w _ fun a us F1 H1 s1 h1 i1 => by
    refine ⟨.inl ⟨rfl, us, h1⟩, hb σ F1 Ms H1 (w.step s1) _ fun v F2 H2 s2 r2 => ?_⟩
    cases (show v = V.bl b from r2)
    have e : us = l.map V.bl := its_tM.mp i1
    subst e
    refine ⟨a, _, _, rfl, rfl, ex_l s2.h h1, rfl, by rw [List.all_map]; exact List.all_eq_true.mpr fun _ _ => rfl, ?_⟩
    have ec : ((l.map V.bl).countP fun z => eqV z (V.bl b)) = l.count b := by
      rw [List.countP_map]
      unfold List.count
      refine List.countP_congr fun x _ => ?_
      show eqV (V.bl x) (V.bl b) = true ↔ (x == b) = true
      cases x <;> cases b <;> decide
    rw [ec]
    exact q _ F2 H2 (s1.trans s2) rfl
theorem eg_indexB {l : List Bool} {y : Bool} {j : Nat} (ha : EL K c Γ ta aB l) (hb : EG c Γ tb aB y) (hy : l[j]? = some y) (hn : ∀ m z, m < j → l[m]? = some z → z ≠ y) : EG c Γ (tBM K "list" (rIndex K) ta (tCons tb tNil)) aI (j : Int) := fun σ F Ms H w Q q =>
  ha σ F Ms H w _ fun a us F1 H1 s1 h1 i1 => ⟨.inl ⟨rfl, us, h1⟩, hb σ F1 Ms H1 (w.step s1) _ fun v F2 H2 s2 r2 => by
    cases (show v = V.bl y from r2)
    have e : us = l.map V.bl := its_tM.mp i1
    subst e
    refine ⟨a, _, _, j, .bl y, rfl, rfl, ex_l s2.h h1, rfl, by rw [List.all_map]; exact List.all_eq_true.mpr fun _ _ => rfl, by rw [List.getElem?_map, hy]; rfl, by cases y <;> rfl, fun m z hm hz => ?_, q _ F2 H2 (s1.trans s2) rfl⟩
    rw [List.getElem?_map] at hz
    obtain ⟨z', hz', rfl⟩ := Option.map_eq_some_iff.mp hz
    have := hn m z' hm hz'
    revert this
    cases z' <;> cases y <;> decide⟩
end
/-! ### tests that change things -/
section
variable {α β γ : Type} {K : PySem.W.Frag} {c : Cw} {Γ Δ Θ : List Spec} {ta tb te : TE} {t u : TT} {τ : Ty α} {θ : Ty β} {ρ : Ty γ} {x : α} {y : β} {z : γ} {D : Ends} {tu tw tz ts : TS}
def TM (c : Cw) (Γ : List Spec) (tt : TT) (Δ : List Spec) (b : Bool) : Prop := ∀ σ F Ms H, Wd c Γ σ F Ms H → ∀ Q : Bool → Hp → Prop, (∀ F' Ms' H', Wd c Δ σ F' Ms' H' → Q b H') → tt σ H Q
theorem em_op {r : R2} (ha : EM c Γ ta Δ τ x) (hb : EG c Δ tb θ y) (hr : RG r τ x θ y ρ z) : EM c Γ (tOp r ta tb) Δ ρ z := fun σ F Ms H w Q q =>
  ha σ F Ms H w _ fun u F1 Ms1 H1 w1 r1 => hb σ F1 Ms1 H1 w1 _ fun v F2 H2 s2 r2 => hr F2 H2 u v s2.fh (τ.up r1 s2.f) r2 Q fun v' F3 H3 s3 r3 => q v' F3 Ms1 H3 ((w1.step s2).step s3) r3
theorem rg_neS {i j : Str} : RG rNe aS i aS j aB (!decide (i = j)) := rg_val (f := V.str) (g := V.str) (k := V.bl) fun H Q q => ⟨rfl, by rw [← dec_f (f := V.str) (fun _ _ e => V.str.inj e) i j] at q; exact q⟩
theorem em_neS {i j : Str} (ha : EM c Γ ta Δ aS i) (hb : EG c Δ tb aS j) : EM c Γ (tOp rNe ta tb) Δ aB (!decide (i = j)) := em_op ha hb rg_neS
theorem tm_test {b : Bool} (h : EM c Γ te Δ aB b) : TM c Γ (tTest te) Δ b := fun σ F Ms H w Q q => h σ F Ms H w _ fun v F1 Ms1 H1 w1 r => ⟨b, r, q F1 Ms1 H1 w1⟩
theorem tm_of {b : Bool} (h : ET c Γ t b) : TM c Γ t Γ b := fun σ F Ms H w Q q => h σ F Ms H w _ fun F1 H1 s => q F1 Ms H1 (w.step s)
theorem tm_or {b : Bool} (h1 : TM c Γ t Δ false) (h2 : TM c Δ u Θ b) : TM c Γ (tOr t u) Θ b := fun σ F Ms H w Q q => h1 σ F Ms H w _ fun F1 Ms1 H1 w1 => iteF (h2 σ F1 Ms1 H1 w1 Q q)
theorem t_ifTM {b : Bool} (h : TM c Γ t Δ b) (h1 : b = true → Tr c Δ tu { D with nx := tz D }) (h2 : b = false → Tr c Δ tw { D with nx := tz D }) : Tr c Γ (tSeq (tIfS t tu tw) tz) D := fun σ H ⟨F, Ms, w⟩ => h σ F Ms H w _ fun F' Ms' H' w' => by
  cases b with
  | true => exact iteT (h1 rfl _ _ ⟨F', Ms', w'⟩)
  | false => exact iteF (h2 rfl _ _ ⟨F', Ms', w'⟩)
theorem XS.at {κ : Ob β} {v0 : V} {i : Nat} {E : L2.St → XK} {B : Addr} (h : Γ[i]? = some (.own (κ.at v0) y)) (hx : XS c (Γ.set i (.own κ y)) te E B) : XS c Γ te E B := fun σ F Ms H w k Q => by
  obtain ⟨v, h1, h2, _⟩ := w.ok i _ h
  have hi := (List.getElem?_eq_some_iff.mp h).1
  refine hx σ F Ms H (w.as h fun v' hv' r => r.2) (fun H' ⟨F', Ms', w'⟩ => k H' ⟨F', Ms', ?_⟩) Q
  have := w'.as (κ' := κ.at v0) (y := y) (i := i) (by rw [List.getElem?_set_self hi]) fun v' hv' r => ⟨by rw [h1] at hv'; rw [← h2]; exact (Option.some.inj (Option.some.inj hv')).symm, r⟩
  rwa [List.set_set, set_same h] at this
end
end HG

/-! a pair of which the first may be None, not in a dict of pairs -/
namespace HG
open PySem PySem.Spec PyProof.Rows L2 Evl HW
section
variable {P : Program} {w : World} {h : Heap} {a : Addr}
theorem items_opt : ∀ {ks : List L2.Key} {vs : List Value}, ItemsAre (mixKind P w) ks vs → ItemsAre (noneKind P w) (ks.map some) vs := by
  intro ks vs q
  induction q with
  | nil => exact .nil
  | cons h1 _ ih => exact .cons h1 ih
theorem hash_opt (ks : List L2.Key) : (tupleKind (noneKind P w)).hash (ks.map some) = (tupleKind (mixKind P w)).hash ks := by
  show tupleKeyHash (noneKind P w) (ks.map some) = tupleKeyHash (mixKind P w) ks
  unfold tupleKeyHash
  rw [List.map_map]
  rfl
theorem dict_opt {xs : List (List L2.Key × Addr × Value)} (d : h.DictOfH (tupleKind (mixKind P w)) a xs) : h.DictOfH (tupleKind (noneKind P w)) a (xs.map fun x => (x.1.map some, x.2)) := by
  obtain ⟨o, es, ep, ho, hx, hdt, he, hk, hn⟩ := d
  refine ⟨o, es, ep, ho, hx, hdt, ?_, fun x hx => ?_, ?_⟩
  · rw [he, List.map_map]
    refine List.map_congr_left fun x _ => ?_
    show (⟨(tupleKind (mixKind P w)).hash x.1, .ref x.2.1, x.2.2⟩ : DictEntry) = ⟨(tupleKind (noneKind P w)).hash (x.1.map some), .ref x.2.1, x.2.2⟩
    rw [hash_opt]
  · obtain ⟨y, hy, rfl⟩ := List.mem_map.mp hx
    obtain ⟨o', items, n, h1, h2, h3, h4⟩ := hk y hy
    exact ⟨o', items, n, h1, h2, h3, items_opt h4⟩
  · rw [List.map_map]
    have inj : ∀ x y : List L2.Key, x.map some = y.map some → x = y := by
      intro x
      induction x with
      | nil => intro y e; cases y with
        | nil => rfl
        | cons _ _ => cases e
      | cons u r ih => intro y e; cases y with
        | nil => cases e
        | cons u' r' =>
          rw [List.map_cons, List.map_cons] at e
          injection e with e1 e2
          rw [Option.some.inj e1, ih r' e2]
    have : (xs.map ((fun x : List (Option L2.Key) × Addr × Value => x.1) ∘ fun x => (x.1.map some, x.2))) = (xs.map (·.1)).map fun k => k.map some := by rw [List.map_map]; rfl
    rw [this]
    refine List.Pairwise.map _ (fun x y ne e => ne (inj x y e)) hn
theorem at_none {xs : List (List L2.Key × Addr × Value)} {t : Int} : atKey (xs.map fun x => (x.1.map some, x.2)) [none, some (.inl t)] = none := by
  unfold atKey
  rw [List.find?_eq_none.mpr fun x hx => ?_]
  · rfl
  · obtain ⟨y, _, rfl⟩ := List.mem_map.mp hx
    intro e
    have e' : y.1.map some = [none, some (.inl t)] := of_decide_eq_true e
    cases hy : y.1 with
    | nil => rw [hy] at e'; cases e'
    | cons u r => rw [hy, List.map_cons] at e'; injection e' with e1; cases e1
end
/-- y not in d; y's first may be None -/
def tDNotO (ty td : TE) : TE := fun σ H Q => ty σ H fun y H1 => td σ H1 fun x H2 => (∃ a o, x = .ref a ∧ DGet H2 a y o ∧ Q (.bl (!o.isSome)) H2) ∨ ∃ a b t kvs, x = .ref a ∧ y = .ref b ∧ H2 b = some (.tup [.non, .int t]) ∧ Rd H2 a (.dT kvs) ∧ Q (.bl true) H2
section
variable {X : Cx} {o i : Expr} {td ty : TE}
theorem pc_dnotO (hu : X.A.units + 1 < cLine) (hi : PE X i ty) (ho : PE X o td) : PC X .NotIn i o (tDNotO ty td) := by
  refine ⟨fun pins s σ H Q I h => ?_⟩
  refine thn (hi.run pins s σ H _ I h) fun iv s1 ⟨y, H1, I1, ry, q1⟩ => thn (ho.run pins s1 σ H1 _ I1 q1) fun u s2 ⟨x, H2, I2, rx, q2⟩ => ?_
  rcases q2 with ⟨a, ov, rfl, g, q2⟩ | ⟨a, b, t, kvs, rfl, rfl, hb, g, q2⟩
  · cases (show u = Value.ref a from rx)
    exact d_notIn hu I2 g ry fun s3 I3 => ⟨.bl (!ov.isSome), H2, I3, rfl, q2⟩
  · cases (show u = Value.ref a from rx)
    cases (show iv = Value.ref b from ry)
    obtain ⟨_, hd, xs, _, dd⟩ := dt_rd I2.hok g
    obtain ⟨_, its, r, ob, h1, h2, n, h3⟩ := (show ObjOk X.prog X.w H2 s2.heap b (.tup [.non, .int t]) from I2.hok b _ hb)
    have key : (tupleKind (noneKind X.prog X.w)).is s2.heap [none, some (.inl t)] b := by
      refine ⟨ob, its.toArray, n, h1, h2, h3, ?_⟩
      match r with
      | .cons r1 (.cons r2 .nil) =>
        cases r1
        obtain ⟨tk, rfl⟩ := r2
        exact .cons (show nkIs none Value.none = true from rfl) (.cons (show nkIs (some (.inl t)) (Value.int t tk) = true from kV_is (P := X.prog) (w := X.w) (k := .inl t) (show RelV (.int t) (.int t tk) from ⟨tk, rfl⟩)) .nil)
    refine wpAny_notIn_heap (tupleKind_room_in1 hu) key hd (dict_opt dd) ?_
    rw [at_none]
    exact ⟨.bl true, H2, I2.tok _, rfl, q2⟩
theorem qc_dnotO (hi : PE X i ty) (ho : PE X o td) (hu : X.A.units + 1 < cLine) : PC X .NotIn i o (tDNotO ty td) := pc_dnotO hu hi ho
end
section
variable {c : Cw} {Γ : List Spec} {ta td te : TE}
/-- the pair's first, as it may be -/
def getO (l : Kvs) (o : Option Int) (t : Int) : Option Int := match o with
  | none => none
  | some a => getP l (a, t)
theorem eg_dnotO {l : Kvs} {o : Option Int} {t : Int} (hk : EG c Γ te (aP aO aI) (o, t)) (hd : EDT c Γ td l) : EG c Γ (tDNotO te td) aB (!(getO l o t).isSome) := fun σ F Ms H w Q q =>
  hk σ F Ms H w _ fun v F1 H1 s1 ⟨b, u, z, e, hb, r1, r2⟩ => hd σ F1 Ms H1 (w.step s1) _ fun a F2 H2 s2 h2 => by
    subst e
    cases (show u = optV o from r1)
    cases (show z = V.int t from r2)
    have hb2 := s2.h _ _ (s1.fh _ _ hb)
    cases o with
    | none => exact .inr ⟨a, b, t, bk l, rfl, rfl, hb2, .inl h2, q _ F2 H2 (s1.trans s2) rfl⟩
    | some x => exact .inl ⟨a, _, rfl, dget_bk (k := (x, t)) h2 hb2, by rw [Option.isSome_map]; exact q _ F2 H2 (s1.trans s2) rfl⟩
end
end HG

/-! texts taken apart -/
namespace HG
open PySem PySem.Spec PyProof.Rows L2 Evl HW
def spS : Str := " "
theorem tl_add (a b : Str) : TL.tl (addS a b) = TL.tl a ++ TL.tl b := TL.tl_append a b
theorem tl_numS {i : Int} (h : 0 ≤ i) : TL.tl (numS i) = TL.numL i.toNat := by
  have e : i = ((i.toNat : Nat) : Int) := by omega
  unfold numS
  rw [e]
  exact TL.tl_num _
theorem tl_sp : TL.tl spS = 32 :: [] := by decide +kernel
theorem tl_nl : TL.tl nlS = 10 :: [] := by decide +kernel
theorem free_num {i : Int} (h : 0 ≤ i) {s : Nat} (hs : s < 48 ∨ 57 < s) : s ∉ TL.tl (numS i) := by rw [tl_numS h]; exact TL.numL_free hs
theorem join_add (sep x y : Str) (r : List Str) : Str.join sep (x :: y :: r) = addS (addS x sep) (Str.join sep (y :: r)) := rfl
theorem join_1 (sep x : Str) : Str.join sep [x] = x := rfl
theorem line_join (r : Rw3) : lineS r = Str.join spS [numS r.1, "to", numS r.2.1, "costs", numS r.2.2] := by
  refine TL.ext_tl ?_
  rw [TL.tl_join]
  have e1 : TL.tl (" to " : Str) = 32 :: (TL.tl ("to" : Str) ++ [32]) := by decide +kernel
  have e2 : TL.tl (" costs " : Str) = 32 :: (TL.tl ("costs" : Str) ++ [32]) := by decide +kernel
  unfold lineS
  simp only [tl_add, e1, e2, tl_sp, List.map_cons, List.map_nil, TL.joinL, List.append_assoc, List.cons_append, List.nil_append]
theorem head_join (n : Int) : headS n = Str.join spS [("tellers" : Str), numS n] := by
  refine TL.ext_tl ?_
  rw [TL.tl_join]
  have e1 : TL.tl ("tellers " : Str) = TL.tl ("tellers" : Str) ++ [32] := by decide +kernel
  unfold headS
  simp only [tl_add, e1, tl_sp, List.map_cons, List.map_nil, TL.joinL, List.append_assoc, List.cons_append, List.nil_append]
theorem split_sp {parts : List Str} (hne : parts ≠ []) (hp : ∀ p ∈ parts, 32 ∉ TL.tl p) : Txt.split (Str.join spS parts) spS = parts := by
  rw [← TL.join_eq]
  exact TL.split_join tl_sp (by decide +kernel) hne hp
theorem split_nl {parts : List Str} (hne : parts ≠ []) (hp : ∀ p ∈ parts, 10 ∉ TL.tl p) : Txt.split (Str.join nlS parts) nlS = parts := by
  rw [← TL.join_eq]
  exact TL.split_join tl_nl (by decide +kernel) hne hp
theorem words_line {r : Rw3} (h1 : 0 ≤ r.1) (h2 : 0 ≤ r.2.1) (h3 : 0 ≤ r.2.2) : Txt.split (lineS r) spS = [numS r.1, "to", numS r.2.1, "costs", numS r.2.2] := by
  rw [line_join]
  refine split_sp (by simp) fun p hp => ?_
  simp only [List.mem_cons, List.not_mem_nil, or_false] at hp
  rcases hp with rfl | rfl | rfl | rfl | rfl
  · exact free_num h1 (by decide)
  · decide +kernel
  · exact free_num h2 (by decide)
  · decide +kernel
  · exact free_num h3 (by decide)
theorem words_head {n : Int} (h : 0 ≤ n) : Txt.split (headS n) spS = [("tellers" : Str), numS n] := by
  rw [head_join]
  refine split_sp (by simp) fun p hp => ?_
  simp only [List.mem_cons, List.not_mem_nil, or_false] at hp
  rcases hp with rfl | rfl
  · decide +kernel
  · exact free_num h (by decide)
theorem free_line {r : Rw3} (h1 : 0 ≤ r.1) (h2 : 0 ≤ r.2.1) (h3 : 0 ≤ r.2.2) : 10 ∉ TL.tl (lineS r) := by
  have e1 : TL.tl (" to " : Str) = [32, 116, 111, 32] := by decide +kernel
  have e2 : TL.tl (" costs " : Str) = [32, 99, 111, 115, 116, 115, 32] := by decide +kernel
  unfold lineS
  simp only [tl_add, e1, e2, List.mem_append, not_or]
  exact ⟨⟨⟨⟨free_num h1 (by decide), by decide⟩, free_num h2 (by decide)⟩, by decide⟩, free_num h3 (by decide)⟩
theorem free_head {n : Int} (h : 0 ≤ n) : 10 ∉ TL.tl (headS n) := by
  have e1 : TL.tl ("tellers " : Str) = [116, 101, 108, 108, 101, 114, 115, 32] := by decide +kernel
  unfold headS
  simp only [tl_add, e1, List.mem_append, not_or]
  exact ⟨by decide, free_num h (by decide)⟩
theorem lines_book {n : Int} {rows : List Rw3} (hn : 0 ≤ n) (h : ∀ r ∈ rows, 0 ≤ r.1 ∧ 0 ≤ r.2.1 ∧ 0 ≤ r.2.2) : Txt.split (bookS n rows) nlS = headS n :: rows.map lineS := by
  unfold bookS
  rw [← join_text]
  refine split_nl (by simp) fun p hp => ?_
  rcases List.mem_cons.mp hp with rfl | hp
  · exact free_head hn
  · obtain ⟨r, hr, rfl⟩ := List.mem_map.mp hp
    exact free_line (h r hr).1 (h r hr).2.1 (h r hr).2.2
/-! ### the lengths of the parts -/
theorem joinL_len (s : List Nat) : ∀ (parts : List (List Nat)) (p : List Nat), p ∈ parts → p.length ≤ (TL.joinL s parts).length
  | [x], p, h => by rw [List.mem_singleton.mp h]; exact Nat.le_refl _
  | x :: y :: r, p, h => by
    show p.length ≤ (x ++ (s ++ TL.joinL s (y :: r))).length
    rw [List.length_append, List.length_append]
    rcases List.mem_cons.mp h with rfl | h
    · omega
    · have := joinL_len s (y :: r) p h
      omega
theorem split_len {x y p : Str} (h : p ∈ Txt.split x y) : p.length ≤ x.length := by
  have e := congrArg TL.tl (StrLaws.join_split x y)
  rw [TL.tl_join] at e
  have := joinL_len (TL.tl y) ((Txt.split x y).map TL.tl) (TL.tl p) (List.mem_map.mpr ⟨p, h, rfl⟩)
  rw [e] at this
  rw [TL.len_tl, TL.len_tl]
  exact this
theorem split_ne (x y : Str) (hy : TL.tl y ≠ []) (hk : y.cps.all (· < 256) = true) : Txt.split x y ≠ [] := fun e => by
  have e2 := congrArg (fun l => List.map TL.tl l) e
  rw [show (Txt.split x y).map TL.tl = _ from TL.split_spl x y hy (TL.kind_ok hk)] at e2
  have z := StrLaws.join_split x y
  rw [e] at z
  have : ∀ (s : List Nat) (k : Nat) (acc l : List Nat), TL.spl s k acc l ≠ [] := by
    intro s k acc l
    induction l generalizing k acc with
    | nil => unfold TL.spl; simp
    | cons c r ih =>
      unfold TL.spl
      repeat' split
      all_goals simp_all
  exact this _ _ _ _ e2
/-! ### numbers -/
def digsB (w : Str) : Bool := (decide (1 ≤ w.length) && decide (w.length ≤ 7)) && ((!(decide ((TL.tl w).head? = some 48) && decide (1 < w.length))) && (TL.tl w).all fun c => decide (48 ≤ c) && decide (c ≤ 57))
def valW (w : Str) : Int := ((NumText.digitsVal (TL.tl w) : Nat) : Int)
def numW (w : Str) (low high : Int) : Option Int := if digsB w = true ∧ low ≤ valW w ∧ valW w ≤ high then some (valW w) else none
theorem numW_rg {w : Str} {low high k : Int} (h : numW w low high = some k) : low ≤ k ∧ k ≤ high ∧ 0 ≤ k := by
  unfold numW at h
  split at h
  · rename_i c
    cases h
    exact ⟨c.2.1, c.2.2, Int.natCast_nonneg _⟩
  · cases h
theorem numL_head : ∀ n : Nat, 10 ≤ n → ∃ c r, TL.numL n = c :: r ∧ c ≠ 48 := by
  intro n
  induction n using Nat.strongRecOn with
  | _ n ih =>
    intro h
    rw [TL.numL_step h]
    by_cases q : n / 10 < 10
    · rw [TL.numL_lt q]
      exact ⟨_, _, rfl, by omega⟩
    · obtain ⟨c, r, e, hc⟩ := ih (n / 10) (by omega) (by omega)
      rw [e]
      exact ⟨c, _, rfl, hc⟩
theorem numW_num {k low high : Int} (h0 : 0 ≤ k) (h1 : low ≤ k) (h2 : k ≤ high) (h3 : k < 10 ^ 7) : numW (numS k) low high = some k := by
  have et := tl_numS h0
  have ev : valW (numS k) = k := by
    unfold valW
    rw [et, TL.numL_val]
    omega
  have el : (numS k).length = (TL.numL k.toNat).length := by rw [TL.len_tl, et]
  have l1 : 1 ≤ (TL.numL k.toNat).length := List.length_pos_iff.mpr (TL.numL_ne _)
  have l2 : (TL.numL k.toNat).length ≤ 7 := TL.numL_len (by decide) (by omega)
  have d : digsB (numS k) = true := by
    unfold digsB
    rw [el, et, decide_eq_true l1, decide_eq_true l2]
    have a : (TL.numL k.toNat).all (fun c => decide (48 ≤ c) && decide (c ≤ 57)) = true := List.all_eq_true.mpr fun c hc => by
      have := TL.numL_digits k.toNat c hc
      simp
      omega
    rw [a]
    by_cases q : 10 ≤ k.toNat
    · obtain ⟨c, r, e, hc⟩ := numL_head _ q
      rw [e]
      simp [hc]
    · rw [TL.numL_lt (by omega)]
      simp
  unfold numW
  rw [if_pos ⟨d, by rw [ev]; exact ⟨h1, h2⟩⟩, ev]
/-! ### a line, a head -/
def hearW (n : Int) (line : Str) : Option Rw3 :=
  if (Txt.split line spS).length = 5 ∧ ((Txt.split line spS)[1]?).getD ("" : Str) = ("to" : Str) ∧ ((Txt.split line spS)[3]?).getD ("" : Str) = ("costs" : Str) then
    match numW (((Txt.split line spS)[0]?).getD ("" : Str)) 0 (n - 1), numW (((Txt.split line spS)[2]?).getD ("" : Str)) 1 (n - 1) with
    | some a, some b => if a = b then none else (numW (((Txt.split line spS)[4]?).getD ("" : Str)) 0 1000000).map fun c => (a, b, c)
    | _, _ => none
  else none
theorem hearW_rg {n : Int} {line : Str} {r : Rw3} (h : hearW n line = some r) : (0 ≤ r.1 ∧ r.1 < n) ∧ (1 ≤ r.2.1 ∧ r.2.1 < n) ∧ r.1 ≠ r.2.1 ∧ 0 ≤ r.2.2 ∧ r.2.2 ≤ 1000000 := by
  unfold hearW at h
  split at h
  · cases ea : numW (((Txt.split line spS)[0]?).getD ("" : Str)) 0 (n - 1) with
    | none => rw [ea] at h; cases h
    | some a =>
      cases eb : numW (((Txt.split line spS)[2]?).getD ("" : Str)) 1 (n - 1) with
      | none => rw [ea, eb] at h; cases h
      | some b =>
        rw [ea, eb] at h
        dsimp only at h
        split at h
        · cases h
        · rename_i ne
          obtain ⟨c, ec, rfl⟩ := Option.map_eq_some_iff.mp h
          have := numW_rg ea
          have := numW_rg eb
          have := numW_rg ec
          exact ⟨by show 0 ≤ a ∧ a < n; omega, by show 1 ≤ b ∧ b < n; omega, ne, by show 0 ≤ c; omega, by show c ≤ 1000000; omega⟩
  · cases h
theorem hearW_line {n : Int} {r : Rw3} (n2 : n ≤ 12) (h1 : 0 ≤ r.1 ∧ r.1 < n) (h2 : 1 ≤ r.2.1 ∧ r.2.1 < n) (h3 : r.1 ≠ r.2.1) (h4 : 0 ≤ r.2.2 ∧ r.2.2 ≤ 1000000) : hearW n (lineS r) = some r := by
  unfold hearW
  rw [words_line h1.1 (by omega) h4.1, if_pos ⟨rfl, rfl, rfl⟩]
  show (match numW (numS r.1) 0 (n - 1), numW (numS r.2.1) 1 (n - 1) with
    | some a, some b => if a = b then none else (numW (numS r.2.2) 0 1000000).map fun c => (a, b, c)
    | _, _ => none) = some r
  rw [numW_num h1.1 h1.1 (by omega) (by omega), numW_num (by omega) h2.1 (by omega) (by omega), numW_num h4.1 h4.1 h4.2 (by omega)]
  show (if r.1 = r.2.1 then none else some (r.1, r.2.1, r.2.2)) = some r
  rw [if_neg h3]
/-- what point 11 tells of some book -/
def CostOk (rows : List Rw3) : Prop := ∀ r ∈ rows, r.2.2 ≤ 1000000
def GoodT (t : Str) (b : Int × List Rw3) : Prop := GoodR b.1 b.2 ∧ CostOk b.2 ∧ t = bookS b.1 b.2
theorem CostOk.short {rows : List Rw3} (h : CostOk rows) : Short rows := fun r hr => by
  have := h r hr
  omega
end HG

/-! texts: what is done with them -/
namespace HG
open PySem PySem.Spec PyProof.Rows L2 Evl HW
section
variable {α β γ : Type} {K : PySem.W.Frag} {C : Addr} {c : Cw} {Γ Δ : List Spec} {ta tb te tl td tx to : TE} {t u : TT} {τ : Ty α} {θ : Ty β} {x : α} {y : β} {D : Ends} {tu tw tz ts : TS}
theorem its_S : ∀ (ls : List Str) {F : Hp}, HG.Its aS F (ls.map V.str) ls
  | [], _ => .nil
  | _ :: r, _ => .cons rfl (its_S r)
theorem en_split {a b : Str} (ho : EG c Γ to aS a) (he : EG c Γ te aS b) (hb : (b.length == 0) = false) (hz : a.length ≤ 100000) :
    EN c Γ (tM1 (fun x xs H Q => ∃ a b, x = .str a ∧ xs = [.str b] ∧ (b.length == 0) = false ∧ a.length + 2 ≤ sizeLine ∧ rNewStrs (Txt.split a b) H Q) to te) (oL aS) (Txt.split a b) := fun σ F Ms H w Q q =>
  ho σ F Ms H w _ fun v F1 H1 s1 r1 => ⟨⟨a, r1⟩, he σ F1 Ms H1 (w.step s1) _ fun v2 F2 H2 s2 r2 => ⟨a, b, r1, by rw [show v2 = V.str b from r2], hb, by rw [sizeLine_eq]; omega, fun p hp => by
    obtain ⟨s3, m, n⟩ := en_new (o := .lst ((Txt.split a b).map V.str)) s2.fh hp
    exact q _ F2 _ _ ((s1.trans s2).trans s3) m (en_step (s1.trans s2) n) ⟨p, _, rfl, rfl, its_S _⟩⟩⟩
theorem eg_lenS {a : Str} (h : EG c Γ ta aS a) (hz : a.length ≤ 100000) : EG c Γ (tCB (fun xs H Q => ∃ z, xs = [.str z] ∧ z.length ≤ sizeLine ∧ Q (.int z.length) H) (tCons ta tNil)) aI (a.length : Int) := fun σ F Ms H w Q q =>
  h σ F Ms H w _ fun v F1 H1 s1 r1 => ⟨a, by rw [show v = V.str a from r1], by rw [sizeLine_eq]; omega, q _ F1 H1 s1 rfl⟩
theorem eg_intS {a : Str} {n : Int} (h : EG c Γ ta aS a) (hn : PySem.intText? a = some n) (hz : a.length ≤ 640) : EG c Γ (tCB (fun xs H Q => ∃ a n, xs = [.str a] ∧ PySem.intText? a = some n ∧ a.length ≤ 640 ∧ Q (.int n) H) (tCons ta tNil)) aI n := fun σ F Ms H w Q q =>
  h σ F Ms H w _ fun v F1 H1 s1 r1 => ⟨a, n, by rw [show v = V.str a from r1], hn, hz, q _ F1 H1 s1 rfl⟩
theorem eg_ixS {a : Str} {i : Int} {k : Nat} (h : EG c Γ ta aS a) (hi : EG c Γ tb aI i) (hz : a.length ≤ 100000) (hk : atI (TL.tl a) i = some k) : EG c Γ (tOp rIxS ta tb) aS ⟨#[k]⟩ := eg_op h hi fun F H u v e h1 h2 Q q => by
  cases (show u = V.str a from h1)
  cases (show v = V.int i from h2)
  exact ⟨a, i, k, rfl, rfl, by rw [sizeLine_eq]; omega, hk, q _ F H (Stp.refl e) rfl⟩
theorem eg_ninC {k : Nat} {z : Str} (h : EG c Γ ta aS ⟨#[k]⟩) (hz : EG c Γ tb aS z) : EG c Γ (tOp (fun x y H Q => ∃ (c : Nat) (z : Str), x = .str ⟨#[c]⟩ ∧ y = .str z ∧ Q (.bl (!decide (c ∈ z.cps.toList))) H) ta tb) aB (!decide (k ∈ TL.tl z)) := eg_op h hz fun F H u v e h1 h2 Q q => by
  cases (show u = V.str ⟨#[k]⟩ from h1)
  cases (show v = V.str z from h2)
  exact ⟨k, z, rfl, rfl, q _ F H (Stp.refl e) rfl⟩
theorem for_strG {x : Str} {g : L2.TG} {tb : TS} {D : Ends} {σ : L2.St} {H : Hp} (Pv : Nat → L2.St → Hp → Prop) (h0 : Pv 0 σ H)
    (hs : ∀ i k σ H, (TL.tl x)[i]? = some k → Pv i σ H → g (.str ⟨#[k]⟩) σ H fun σ2 H2 => tb { D with nx := Pv (i + 1), ct := Pv (i + 1), bk := D.nx } σ2 H2) (hd : ∀ σ H, Pv (TL.tl x).length σ H → D.nx σ H) :
    ∃ W : Nat → Nat → L2.St → Hp → Prop, (∃ m, W 0 m σ H) ∧ ∀ i m σ H, W i m σ H → ((L2.Its x).stop i H ∧ D.nx σ H) ∨ ((L2.Its x).go i H ∧ ∃ N : L2.St → Hp → Prop, (∀ σ' H', N σ' H' → ∃ m', m' < m ∧ W (i + 1) m' σ' H') ∧
      ∀ v H', (L2.Its x).yld i H v H' → g v σ H' fun σ2 H2 => tb { D with nx := N, ct := N, bk := D.nx } σ2 H2) := by
  have sz : x.cps.size = (TL.tl x).length := by simp [TL.tl]
  refine ⟨fun i m σ H => m = (TL.tl x).length - i ∧ i ≤ (TL.tl x).length ∧ Pv i σ H, ⟨_, rfl, Nat.zero_le _, h0⟩, ?_⟩
  rintro i m σ H ⟨rfl, hi, p⟩
  by_cases hlt : i < (TL.tl x).length
  · refine .inr ⟨show i < x.cps.size by omega, Pv (i + 1), fun σ' H' p' => ⟨_, by omega, rfl, hlt, p'⟩, ?_⟩
    rintro v H' ⟨rfl, k, hk, rfl⟩
    exact hs i k σ _ (by rw [show (TL.tl x)[i]? = x.cps[i]? from Array.getElem?_toList]; exact hk) p
  · have e : i = (TL.tl x).length := by omega
    subst e
    exact .inl ⟨show x.cps.size ≤ _ by omega, hd σ H p⟩
/-- for sign in text -/
theorem t_forS {a : Str} {j : Nat} (Γi : Nat → List Spec) (I : Nat → Prop) (hl : EG c Γ tl aS a) (h0 : Wk Γ (Γi 0)) (i0 : I 0)
    (hs : ∀ i k, (TL.tl a)[i]? = some k → I i → Tr c ((Γi i).set j (.is aS ⟨#[k]⟩)) tu { D with nx := At c (I (i + 1)) (Γi (i + 1)), ct := At c (I (i + 1)) (Γi (i + 1)), bk := tz D }) (hd : I (TL.tl a).length → Tr c (Γi (TL.tl a).length) tz D) :
    Tr c Γ (tSeq (tFor (iStr tl) (gName j) tu) tz) D := fun σ H ⟨F, Ms, w⟩ => hl σ F Ms H w _ fun v F1 H1 s1 r1 => ⟨a, r1, by
  refine for_strG (x := a) (fun i σ' H' => At c (I i) (Γi i) σ' H') ⟨i0, F1, Ms, (w.step s1).weak h0⟩ ?_ fun σ' H' ⟨ii, h'⟩ => hd ii σ' H' h'
  rintro i k σ' H' hk ⟨ii, F', Ms', w'⟩
  exact hs i k hk ii _ _ ⟨F', Ms', w'.set (τ := aS) (x := ⟨#[k]⟩) j rfl⟩⟩
/-! ### what raises within a call's arguments -/
theorem xg_meth3 {m : Str} {sp : Sp} {b : Bk} {E : XK} {B : Addr} (h : EB C c Γ te b) (ha : EG c Γ ta τ x) (hb : EG c Γ tb θ y) (hc : XG c Γ tx E B) (h1 : ¬ m = "costs" := by decide +kernel) (h2 : ¬ m = "size" := by decide +kernel) : XG c Γ (tMeth C m sp [] E te (tCons ta (tCons tb (tCons tx tNil)))) E B := fun σ F Ms H w k Q =>
  h σ F Ms H w _ fun p d dx F0 H0 s0 B0 => ⟨p, dx, _, rfl, B0.ob, flds_no _ _ h1 h2, ha σ F0 Ms H0 (w.step s0) _ fun v1 F1 H1 s1 r1 => hb σ F1 Ms H1 ((w.step s0).step s1) _ fun v2 F2 H2 s2 r2 => hc σ F2 Ms H2 (((w.step s0).step s1).step s2) k _⟩
theorem xg_arg {sp : Sp} {E E' : XK} {B : Addr} (h : XG c Γ ta E B) : XG c Γ (tMake C sp [] E' (tCons ta tNil)) E B := fun σ F Ms H w k Q => h σ F Ms H w k _
theorem t_asgXH {i : Nat} {E : XK} {B : Addr} (h : XH c Γ te E B) (q : ∀ σ H', Hd c Γ σ H' → E (.ref B) none H') : Tr c Γ (tSeq (tAsg te (gName i)) tz) D := fun σ H ⟨F, Ms, w⟩ => h σ F Ms H w (q σ) _
end
/-! ### a call that changes a thing and raises -/
section
variable {α β : Type} {c : Cw} {Γ : List Spec} {κ : Ob α} {ι : Type} {xp : ι → α} {Γp : ι → List Spec} {o : ι → OutO α} {pre : ι → Prop} {tt : TA} {τ : Ty β} {z : β} {y : α} {i : Nat} {E : XK} {B : Addr}
theorem xg_callO (a : ι) (h : Γ[i]? = some (.own κ (xp a))) (ha : EA c Γ tt (Γp a)) (hi : ∀ s ∈ Γp a, ∃ (δ : Type) (τ : Ty δ) (x : δ), s = .is τ x) (hp : pre a) (ho : o a = .exc B y) : XG c Γ (tCall (PmO κ xp Γp o pre) [] E (tCons (tVar i) tt)) E B := fun σ F Ms H w k Q => by
  obtain ⟨v, h1, h2⟩ := w.ok i _ h
  refine ⟨v, h1, ha σ F Ms H w _ fun us F1 H1 s1 r1 => ?_⟩
  have w1 := w.step s1
  refine ⟨a, F1, Ms i, v, us, by rw [List.append_nil], hp, w1.fx, w1.mf i, w1.mx i, κ.up h2 s1.f, aok_none hi r1, ?_⟩
  rw [ho]
  intro H' r
  obtain ⟨F', Ms', w', _⟩ := w1.backM h h1 r
  exact k H' w'.exc
end
/-! ### isinstance of a book -/
def insB (K : PySem.W.Frag) (D : Addr) : Bool := eqV2 (PySem.W.findIn K (.ref D) "__class__") (some (some (.builtin "object.__class__"))) && (eqV2 (PySem.W.specialIn K (.builtin "object.__class__") "__get__") (some (some (.builtin "getset_descriptor.__get__"))) &&
  (decide (PySem.W.takesIn K (.builtin "object.__class__") = some true) && decide (PySem.W.mroIn K D (.type "object") = some true)))
theorem eg_isBk {K : PySem.W.Frag} {C : Addr} {c : Cw} {Γ : List Spec} {te : TE} {b : Bk} (h : EB C c Γ te b) (cl : Cls K C) (i : insB K C = true) : EG c Γ (tCB (rIsi K) (tCons te (tCons (tC (.ref C)) tNil))) aB true := fun σ F Ms H w Q q => by
  unfold insB at i
  simp only [Bool.and_eq_true] at i
  obtain ⟨i1, i2, i3, i4⟩ := i
  refine h σ F Ms H w _ fun p d dx F1 H1 s1 B => ⟨.ref p, .ref C, .ref C, .ref C, true, rfl, .own C, .base (.ins B.ob cl (of_decide_eq_true i1) (of_decide_eq_true i2) (of_decide_eq_true i3) (of_decide_eq_true i4)), ?_, q _ F1 H1 s1 rfl⟩
  show (if (Value.ref C == Value.ref C) = true then some true else _) = some true
  rw [if_pos (beq_self_eq_true _)]
theorem pe_gA {X : Cx} {mg : Str → Option Value} {x : Str} {a : Addr} {pos : Pos} (g : mg x = some (.ref a)) (hm : X.mg = mg) (hg : Gl X x) (hd : (x == ("__debug__" : Str)) = false := by decide) : PE X (.Name x pos) (tC (.ref a)) := by
  subst hm
  exact pe_glob hg g rfl hd
theorem en_callS {α : Type} {c : Cw} {Γ : List Spec} {κ : Ob α} {x : α} {ι : Type} {Γp : ι → List Spec} {o : ι → Out} {pre : ι → Prop} {E : L2.St → XK} {tt : TA} (a : ι) (ha : EA c Γ tt (Γp a)) (hp : pre a) (ho : o a = .new κ x) : EN c Γ (tCallS (Pm Γp o pre) E tt) κ x := fun σ F Ms H w Q q =>
  ha σ F Ms H w _ fun vs F1 H1 s1 r1 => by
    refine ⟨a, F1, hp, s1.fh, r1, ?_⟩
    rw [ho]
    intro v H' r
    obtain ⟨G, M, s2, m, n, r2⟩ := r.stp
    exact q v G M H' (s1.trans s2) m (en_step s1 n) r2
theorem numS_inj {i j : Int} (h1 : 0 ≤ i) (h2 : 0 ≤ j) (e : numS i = numS j) : i = j := by
  have := congrArg TL.tl e
  rw [tl_numS h1, tl_numS h2] at this
  have := TL.numL_inj this
  omega
end HG

/-! numbers back to texts; pairs held against pairs; more of what is done with texts -/
namespace HG
open PySem PySem.Spec PyProof.Rows L2 Evl HW
/-! ### figures -/
theorem val_snoc (l : List Nat) (c : Nat) : NumText.digitsVal (l ++ [c]) = NumText.digitsVal l * 10 + (c - 48) := by
  unfold NumText.digitsVal
  rw [List.foldl_append]
  rfl
theorem digits_back : ∀ (m : Nat) (l : List Nat), l.length = m → NumText.AllDigits l → l ≠ [] → (l.head? = some 48 → l.length = 1) → TL.numL (NumText.digitsVal l) = l := by
  intro m
  induction m with
  | zero => intro l hl _ hn _; exact absurd (List.length_eq_zero_iff.mp hl) hn
  | succ m ih =>
    intro l hl hd hn hh
    rcases List.eq_nil_or_concat l with rfl | ⟨l', c, rfl⟩
    · exact absurd rfl hn
    rw [List.concat_eq_append] at *
    have hc := hd c (by simp)
    rw [val_snoc]
    cases l' with
    | nil =>
      have : NumText.digitsVal [] = 0 := rfl
      rw [this, TL.numL_lt (by omega)]
      show [48 + (0 * 10 + (c - 48))] = [c]
      congr 1
      omega
    | cons x r =>
      have hx : x ≠ 48 := fun e => by
        have := hh (by rw [e]; rfl)
        simp at this
      have e1 := ih (x :: r) (by simp at hl ⊢; omega) (fun d hd' => hd d (List.mem_append_left _ hd')) (by simp) (fun e => by
        cases e
        exact absurd rfl hx)
      have pos : 1 ≤ NumText.digitsVal (x :: r) := by
        rcases Nat.eq_zero_or_pos (NumText.digitsVal (x :: r)) with z | z
        · rw [z, TL.numL_lt (by omega)] at e1
          injection e1 with e2
          exact absurd e2.symm hx
        · exact z
      rw [TL.numL_step (by omega), show (NumText.digitsVal (x :: r) * 10 + (c - 48)) / 10 = NumText.digitsVal (x :: r) by omega, show 48 + (NumText.digitsVal (x :: r) * 10 + (c - 48)) % 10 = c by omega, e1]
theorem valW_nn (w : Str) : 0 ≤ valW w := Int.natCast_nonneg _
theorem numS_back {w : Str} (h : digsB w = true) : numS (valW w) = w := by
  unfold digsB at h
  simp only [Bool.and_eq_true, Bool.not_eq_true'] at h
  obtain ⟨⟨h1, h2⟩, h3, h4⟩ := h
  have l1 := of_decide_eq_true h1
  have ll : w.length = (TL.tl w).length := TL.len_tl w
  refine TL.ext_tl ?_
  rw [tl_numS (valW_nn w), show (valW w).toNat = NumText.digitsVal (TL.tl w) from Int.toNat_natCast _]
  refine digits_back _ (TL.tl w) rfl (fun c hc => ?_) (fun z => by rw [z] at ll; simp at ll; omega) fun e => ?_
  · have := List.all_eq_true.mp h4 c hc
    simp at this
    omega
  · rw [decide_eq_true e, Bool.true_and] at h3
    have := of_decide_eq_false h3
    omega
theorem digs_num {k : Int} (h0 : 0 ≤ k) (h : k < 10 ^ 7) : digsB (numS k) = true ∧ valW (numS k) = k := by
  have := numW_num h0 (Int.le_refl k) (Int.le_refl k) h
  unfold numW at this
  split at this
  · rename_i c
    exact ⟨c.1, Option.some.inj this⟩
  · cases this
/-- as a law looks at a word -/
def lnumV (w : Str) (most : Int) : Int := if digsB w = true ∧ valW w ≤ most then valW w else -1
theorem lnum_num {k most : Int} (h0 : 0 ≤ k) (h : k < 10 ^ 7) (h1 : k ≤ most) : lnumV (numS k) most = k := by
  obtain ⟨a, b⟩ := digs_num h0 h
  unfold lnumV
  rw [if_pos ⟨a, by rw [b]; exact h1⟩, b]
theorem lnum_rg {w : Str} {most : Int} (h : lnumV w most ≠ -1) : 0 ≤ lnumV w most ∧ lnumV w most ≤ most ∧ numS (lnumV w most) = w := by
  unfold lnumV at *
  split at h
  · rename_i c
    rw [if_pos c]
    exact ⟨valW_nn w, c.2, numS_back c.1⟩
  · exact absurd rfl h
theorem lnum_low {w : Str} {most : Int} : -1 ≤ lnumV w most := by
  unfold lnumV
  split
  · have := valW_nn w; omega
  · omega
/-! ### pairs -/
def le2P (p q : Int × Int) : Bool := if p.1 = q.1 then (if p.2 = q.2 then true else decide (p.2 ≤ q.2)) else decide (p.1 ≤ q.1)
theorem le2P_no {p q : Int × Int} (h : le2P p q = false) : q.1 < p.1 ∨ (q.1 = p.1 ∧ q.2 < p.2) := by
  unfold le2P at h
  split at h
  · rename_i e
    split at h
    · cases h
    · have := of_decide_eq_false h
      exact .inr ⟨e.symm, by omega⟩
  · have := of_decide_eq_false h
    exact .inl (by omega)
theorem le2P_of {p q : Int × Int} (h : q.1 < p.1 ∨ (q.1 = p.1 ∧ q.2 < p.2)) : le2P p q = false := by
  unfold le2P
  rcases h with h | ⟨h1, h2⟩
  · rw [if_neg (by omega), decide_eq_false (by omega)]
  · rw [if_pos h1.symm, if_neg (by omega), decide_eq_false (by omega)]
theorem qo_leT {X : Cx} {K : PySem.W.Frag} (hK : X.K = K) (hu : X.A.units < cLine) : OpR X (compareOp .LtE) (rLeT K) := hK ▸ op_leT hu
section
variable {α β γ : Type} {K : PySem.W.Frag} {C : Addr} {c : Cw} {Γ Δ : List Spec} {ta tb te tl td tx to : TE} {t u : TT} {τ : Ty α} {θ : Ty β} {x : α} {y : β} {D : Ends} {tu tw tz ts : TS}
theorem eg_leP {p q : Int × Int} (ha : EG c Γ ta (aP aI aI) p) (hb : EG c Γ tb (aP aI aI) q) : EG c Γ (tOp (rLeT K) ta tb) aB (le2P p q) := fun σ F Ms H w Q k =>
  ha σ F Ms H w _ fun v F1 H1 s1 ⟨a, u1, u2, e, h1, r1, r2⟩ => hb σ F1 Ms H1 (w.step s1) _ fun v' F2 H2 s2 ⟨b, u3, u4, e', h2, r3, r4⟩ => by
    subst e e'
    cases (show u1 = V.int p.1 from r1)
    cases (show u2 = V.int p.2 from r2)
    cases (show u3 = V.int q.1 from r3)
    cases (show u4 = V.int q.2 from r4)
    refine ⟨a, b, [p.1, p.2], [q.1, q.2], rfl, rfl, .inl (.inl (s2.h _ _ (s1.fh _ _ h1))), .inl (.inl (s2.fh _ _ h2)), ?_⟩
    have e : Ob.lexAt (fun j => decide ([p.1, p.2].getD j 0 = [q.1, q.2].getD j 0)) (fun j => decide ([p.1, p.2].getD j 0 ≤ [q.1, q.2].getD j 0)) (decide ([p.1, p.2].length ≤ [q.1, q.2].length)) 0 (min [p.1, p.2].length [q.1, q.2].length) = le2P p q := by
      show (if decide (p.1 = q.1) = true then (if decide (p.2 = q.2) = true then true else decide (p.2 ≤ q.2)) else decide (p.1 ≤ q.1)) = _
      unfold le2P
      simp only [decide_eq_true_eq]
    rw [e]
    exact k _ F2 H2 (s1.trans s2) rfl
theorem eg_inP {i : Int} {p : Int × Int} (ha : EG c Γ ta aI i) (hb : EG c Γ tb (aP aI aI) p) : EG c Γ (tOp (rIn K false) ta tb) aB (decide (i ∈ [p.1, p.2])) := fun σ F Ms H w Q k =>
  ha σ F Ms H w _ fun v F1 H1 s1 r1 => hb σ F1 Ms H1 (w.step s1) _ fun v' F2 H2 s2 ⟨b, u3, u4, e', h2, r3, r4⟩ => by
    subst e'
    cases (show v = V.int i from r1)
    cases (show u3 = V.int p.1 from r3)
    cases (show u4 = V.int p.2 from r4)
    refine ⟨b, [p.1, p.2].map V.int, rfl, .inr (.inl (.inl (s2.fh _ _ h2))), rfl, flat_int, ?_⟩
    rw [in_int]
    exact k _ F2 H2 (s1.trans s2) rfl
/-! ### more of texts -/
theorem cutS_len (z : Str) (lo hi : Option Int) : (cutS z lo hi).length ≤ z.length := by
  rw [TL.len_tl, TL.len_tl]
  show (((TL.tl z).drop _).take _).length ≤ _
  rw [List.length_take, List.length_drop]
  omega
theorem eg_cutS {z : Str} {lo hi : Option Int} {tlo thi : TO} (ha : EG c Γ ta aS z) (h1 : EO c Γ tlo lo) (h2 : EO c Γ thi hi) (hz : z.length ≤ 100000) : EG c Γ (tSl rSlS ta tlo thi) aS (cutS z lo hi) := fun σ F Ms H w Q q =>
  ha σ F Ms H w _ fun v F1 H1 s1 r1 => h1 σ F1 Ms H1 (w.step s1) _ fun F2 H2 s2 => h2 σ F2 Ms H2 ((w.step s1).step s2) _ fun F3 H3 s3 => ⟨z, r1, by rw [sizeLine_eq]; omega, q _ F3 H3 (s1.trans (s2.trans s3)) rfl⟩
def repS (x : Str) (n : Int) : Str := ⟨(List.replicate n.toNat x.cps).foldl (· ++ ·) #[]⟩
theorem rep_size (a : Array Nat) : ∀ (k : Nat) (b : Array Nat), ((List.replicate k a).foldl (· ++ ·) b).size = b.size + k * a.size
  | 0, b => by simp
  | k + 1, b => by
    rw [List.replicate_succ, List.foldl_cons, rep_size a k, Array.size_append, Nat.succ_mul]
    omega
theorem repS_len (x : Str) (n : Int) : (repS x n).length = n.toNat * x.length := by
  show ((List.replicate n.toNat x.cps).foldl (· ++ ·) #[]).size = _
  rw [rep_size]
  simp [Str.length]
def rRepS : R2 := fun x y H Q => ∃ z k, x = .str z ∧ y = .int k ∧ 2 ≤ k ∧ k ≤ 1000 ∧ 1 ≤ z.length ∧ z.length ≤ 1000 ∧ Q (.str (repS z k)) H
theorem op_rep_str {X : Cx} : OpR X (binaryOp .Mult) rRepS := by
  intro pins s σ H x y v u Q I rx ry h
  obtain ⟨z, k, rfl, rfl, h1, h2, l1, l2, q⟩ := h
  obtain ⟨t, rfl⟩ := rx
  obtain ⟨t', rfl⟩ := ry
  have n1 : (k == 1) = false := beq_eq_false_iff_ne.mpr (by omega)
  have n2 : (z.length == 0) = false := beq_eq_false_iff_ne.mpr (by omega)
  have lz : z.length * k.toNat ≤ 1000000 := by
    have : z.length * k.toNat ≤ 1000 * 1000 := Nat.mul_le_mul l2 (by omega)
    omega
  have sz : (repS z k).length ≤ sizeLine := by
    rw [repS_len, Nat.mul_comm, sizeLine_eq]
    omega
  refine PySem.P.mul_str (by rw [decide_eq_false (by omega), decide_eq_false (by omega)]; rfl) (fun _ _ => ?_) (fun _ _ => ?_) ?_
  · have : (1000 : Int) ≤ (2 ^ 63 - 1) / k := by
      refine Int.le_ediv_of_mul_le (by omega) ?_
      have : 1000 * k ≤ 1000 * 1000 := by omega
      omega
    omega
  · unfold PySem.Builtin.Str.tooLong
    exact decide_eq_false (by rw [sizeLine_eq]; omega)
  · rw [if_neg (by omega), n1, n2]
    exact ⟨sz, ⟨.str (repS z k), H, I.tok _, ⟨_, rfl⟩, q⟩⟩
theorem eg_repS {z : Str} {k : Int} (ha : EG c Γ ta aS z) (hb : EG c Γ tb aI k) (h1 : 2 ≤ k) (h2 : k ≤ 1000) (l1 : 1 ≤ z.length) (l2 : z.length ≤ 1000) : EG c Γ (tOp rRepS ta tb) aS (repS z k) := eg_op ha hb fun F H u v e r1 r2 Q q => by
  cases (show u = V.str z from r1)
  cases (show v = V.int k from r2)
  exact ⟨z, k, rfl, rfl, h1, h2, l1, l2, q _ F H (Stp.refl e) rfl⟩
/-! ### a list grows within -/
theorem em_insert {l : List α} {i : Nat} {k : Int} (h : Γ[i]? = some (.own (oL τ) l)) (hk : EG c Γ ta aI k) (he : EG c Γ te τ x) (h0 : 0 ≤ k) (h1 : k < 2 ^ 63) (hz : l.length < 100000) : EM c Γ (tBM K "list" (fun x vs H Q => ∃ (l : Addr) (xs : List V) (i : Int) (y : V), x = .ref l ∧ vs = [.int i, y] ∧ H l = some (.lst xs) ∧ xs.length < sizeLine ∧ 0 ≤ i ∧ i < 2 ^ 63 ∧
    Q .non (upd H l (.lst (xs.take i.toNat ++ [y] ++ xs.drop i.toNat)))) (tVar i) (tCons ta (tCons te tNil))) (Γ.set i (.own (oL τ) (l.take k.toNat ++ [x] ++ l.drop k.toNat))) aN () := fun σ F Ms H w Q q => by
  obtain ⟨v, e1, p, us, rfl, m, r⟩ := w.ok i _ h
  refine ⟨_, e1, .inl ⟨rfl, us, .inl (.inl (w.mx i _ _ (by rw [m]; exact one_at)))⟩, hk σ F Ms H w _ fun v1 F1 H1 s1 r1 => he σ F1 Ms H1 (w.step s1) _ fun v2 F2 H2 s2 r2 => ⟨p, us, k, v2, rfl, by rw [show v1 = V.int k from r1], s2.h _ _ (s1.h _ _ (w.mx i _ _ (by rw [m]; exact one_at))), sz_lt (by rw [pr_len r]; exact hz), h0, h1, ?_⟩⟩
  have rr := r.up (s1.f.trans s2.f)
  exact q _ _ _ _ (((w.step s1).step s2).mut1 (κ' := oL τ) (y := l.take k.toNat ++ [x] ++ l.drop k.toNat) h m e1 ⟨p, _, rfl, rfl, pr_app (pr_app (pr_take _ rr) (.cons r2 .nil)) (pr_drop _ rr)⟩) rfl
end
end HG

/-! min(lists, key=f): f is a def that hands back the rest of a list -/
namespace HG
open PySem PySem.Spec PyProof.Rows L2 Evl HW
theorem un_same {fs ex : List Addr} {H : Hp} {h h' : Heap} (k : ∀ b o, h.get? b = some o → H b = none → b ∉ fs → b ∉ ex → h'.get? b = some o)
    (sl : ∀ b o, h.get? b = some o → H b = none → b ∈ fs → b ∉ ex → ∃ s, h'.get? b = some { o with slots := s }) (th : ∀ b o, h.get? b = some o → b ∉ ex → ∃ o', h'.get? b = some o') : Un fs ex H H h h' where
  keep := k
  slot := sl
  free := fun _ _ _ n _ => n
  there := th
  tups := fun _ _ q => q
  frzs := fun _ _ _ q => q
  tbls := fun _ ps q => ⟨#[], by rw [Array.append_empty]; exact q⟩
theorem hok_stay {P : Program} {w : World} {H : Hp} {h h' : Heap} (x : HOk P w H h) (k : ∀ b u o, H b = some o → h.get? b = some u → h'.get? b = some u) : HOk P w H h' := fun a o e => (x a o e).stay (fun b u hb q => by
  rcases hb with rfl | hb
  · exact k _ _ _ e q
  · exact k _ _ _ hb q) (fun _ h => h) (fun _ _ h => h)
abbrev restF (r : List Int) : Fml := none :: r.map some
abbrev famC (r : List Int) : HO := .lst (V.non :: r.map V.int)
abbrev spRest : Sp := Pm (fun r : List Int => [.is (aL aO) (restF r)]) (fun r => .new (oL aO) (r.map some)) fun r => r.length ≤ 100
theorem its_rest {F : Hp} (r : List Int) : HG.Its aO F (V.non :: r.map V.int) (restF r) := its_tM.mpr (by
  show _ = optV none :: (r.map some).map optV
  rw [List.map_map]; rfl)
theorem vals_ints {r : List Int} {vs : List Value} (h : Vals (r.map V.int) vs) {hp : Heap} : ∃ as, ReadsAll hp vs (r.map PyData.int) as := by
  induction r generalizing vs with
  | nil => cases h; exact ⟨_, .nil⟩
  | cons x r ih =>
    cases h with
    | cons a b =>
      obtain ⟨as, q⟩ := ih b
      obtain ⟨t, rfl⟩ := a
      exact ⟨_, .cons (.int x t) q⟩
section
variable {X : Cx} {pins : List (Addr × Obj)} {σ : L2.St} {H : Hp} {s : Shared} {q : Addr} {fd : FuncData} {ps : List Str} {k : Nat}
theorem nostk (I : Inv X pins σ H s) {a : Addr} (h : s.heap.get? a = none) : a ∉ frs X.stack := fun hb => by
  obtain ⟨_, o, ho, _⟩ := I.stack.mem hb
  rw [h] at ho
  cases ho
/-- the key of one list: nothing that stood is touched -/
theorem key_turn (F : FnOk X.prog X.w X.K X.mg X.base (L2.CX X.prog X.w) k q fd ps spRest) (hb : Binds X.K fd ps []) (hr : Room (k + 1) X.A) (I : Inv X pins σ H s) {a : Addr} {r : List Int} (ha : H a = some (famC r)) (hz : r.length ≤ 100) {Q E : Value → Shared → Prop}
    (hQ : ∀ (p : Addr) (its : List Value) (n : Nat) (s' : Shared), Inv X pins σ H s' → (∀ b o, s.heap.get? b = some o → b ≠ a → b ∉ frs X.stack → s'.heap.get? b = some o) → s.heap.get? p = none → s'.heap.get? p = some { cls := .type "list", data := .seq its.toArray n } → Vals (r.map V.int) its → Q (.ref p) s') :
    wpAny (model X.prog X.w) X.A.in1 (call (.ref q) [.ref a]) Q E s := by
  obtain ⟨Hs, hs1, hs2⟩ : ∃ Hs : Hp, Hs a = some (famC r) ∧ ∀ b, b ≠ a → Hs b = none := ⟨fun b => if b = a then some (famC r) else none, if_pos rfl, fun b n => if_neg n⟩
  have hs3 : ∀ b, H b = none → Hs b = none := fun b n => hs2 b fun z => by rw [z, ha] at n; cases n
  have e := I.env0.in1
  have hk0 : HOk X.prog X.w Hs s.heap := fun b o z => by
    by_cases c : b = a
    · subst c
      rw [hs1] at z
      cases z
      exact I.hok _ _ ha
    · rw [hs2 b c] at z
      cases z
  have e0 : Env0 X.prog X.w X.K X.mg X.base X.A.in1 X.stack s Hs := ⟨e.frames, e.mod, fun b o z => ⟨(e.bs b o z).1, hs3 _ (e.bs b o z).2⟩, e.bsz, e.funs, fun b z => hs3 _ (e.frf b z), hk0, e.bare⟩
  have sp : spRest ([.ref a] ++ []) Hs (fun v H' => RetNew (cw0 Hs Hs) (oL aO) (r.map some) v H') E0 := ⟨r, Hs, hz, Ex.refl _, ⟨⟨_, rfl, ⟨a, _, rfl, hs1, its_rest r⟩⟩, trivial⟩, fun v H' z => z⟩
  refine wpAny_call (codeAny_mono (F.raw hb .nil X.A.in1 X.stack s Hs [.ref a] [.ref a] _ E0 hr.in1 e0 (.cons rfl .nil) sp) fun res s' hq => ?_)
  cases res with
  | error e =>
    obtain ⟨_, _, _, _, _, _, _, _, _, _, _, _, f⟩ := hq
    exact f.elim
  | ok fl =>
    cases fl with
    | next => exact False.elim hq
    | brk => exact False.elim hq
    | cont => exact False.elim hq
    | ret u =>
      obtain ⟨v, H', os, bare, un, hok', rv, rn⟩ := hq
      obtain ⟨G, M, st, m, n, p, us, rfl, m1, pr⟩ := rn.stp
      obtain rfl : u = Value.ref p := rv
      have eus : us = r.map V.int := by
        have := its_tM.mp pr
        rw [this, List.map_map]; rfl
      subst eus
      have mp : M p = some (.lst (r.map V.int)) := by rw [m1]; exact one_at
      have hp' := m _ _ mp
      obtain ⟨_, its, n', vals, ep⟩ := hok' p _ hp'
      have pn : s.heap.get? p = none := by
        cases z : s.heap.get? p with
        | none => rfl
        | some o =>
          have := un.free p o z (n _ _ mp).1 (by simp)
          rw [this] at hp'
          cases hp'
      have kp : ∀ b o, s.heap.get? b = some o → b ≠ a → b ∉ frs X.stack → s'.heap.get? b = some o := fun b o z c f => un.keep b o z (hs2 b c) f (by simp)
      have hok2 : HOk X.prog X.w H s'.heap := fun b o z => by
        by_cases c : b = a
        · subst c
          rw [ha] at z
          cases z
          exact hok' _ _ (st.h _ _ hs1)
        · refine (I.hok b o z).stay (fun b' u hb' z' => ?_) (fun _ h => h) (fun _ _ h => h)
          have ne : ∃ o', H b' = some o' := by
            rcases hb' with rfl | hb'
            · exact ⟨_, z⟩
            · exact ⟨_, hb'⟩
          refine kp b' u z' ?_ fun f => ?_
          · rintro rfl
            rcases hb' with hb' | hb'
            · exact c hb'.symm
            · rw [ha] at hb'; cases hb'
          · have := I.stkFree b' f
            obtain ⟨o', h'⟩ := ne
            rw [this] at h'
            cases h'
      refine hQ p its n' s' (I.call' (ch := []) os (un_same (fun b o z c f _ => un.keep b o z (hs3 b c) f (by simp)) (fun b o z c f _ => un.slot b o z (hs3 b c) f (by simp)) fun b o z _ => un.there b o z (by simp)) hok2 bare fun b z => absurd z (by simp)) kp pn ep vals
theorem refs_vals : ∀ {as : List Addr} {its : List Value}, Vals (as.map V.ref) its → its = as.map Value.ref
  | [], _, h => by cases h; rfl
  | a :: as, _, h => by
    cases h with
    | cons x y =>
      rw [refs_vals y]
      exact congrArg (· :: _) x
/-- which one is the least -/
def leastI (ks : List (List Int)) : Nat := argBest (fun i j => ltI (ks.getD i []) (ks.getD j [])) (ks.length - 1)
theorem min_run (F : FnOk X.prog X.w X.K X.mg X.base (L2.CX X.prog X.w) k q fd ps spRest) (hb : Binds X.K fd ps []) (hr : Room (k + 1) X.A) (I : Inv X pins σ H s) {l : Addr} {as : List Addr} {ks : List (List Int)} (hl : H l = some (.lst (as.map V.ref))) (ne : 0 < as.length) (lk : ks.length = as.length)
    (hk : ∀ (i : Nat) a, as[i]? = some a → ∃ r, ks[i]? = some r ∧ H a = some (famC r) ∧ r.length ≤ 100) {Q : VK} (hQ : ∀ a, as[leastI ks]? = some a → Q (.ref a) H) : wpAny (model X.prog X.w) X.A (call (.builtin "min") [.ref l] [(Str.ofString "key", .ref q)]) (L2.EP X pins σ Q) X.xe s := by
  obtain ⟨hz, its, n, rv, ol⟩ := I.hok l _ hl
  obtain rfl := refs_vals rv
  have hls : s.heap.IsList l (as.map Value.ref).toArray := ⟨_, ol, rfl, n, rfl⟩
  have gone : s.heap.get? s.heap.objs.size = none := Heap.get?_none_of_le (Nat.le_refl _)
  refine call_min_walkK (wpAny_pyIter_list hls ?_)
  have I2 : Inv X pins σ H { s with heap := s.heap.push { cls := .type "list_iterator", data := .fields #[.ref l, .int 0 0] } } := I.kept (t' := s.toks) fun b u e => Heap.get?_push_of_some _ e
  have f1 : FpOk X pins H s.heap.objs.size := I.fpOk (Nat.le_refl _) (I.hok.fresh (Nat.le_refl _))
  have gone2 : (s.heap.push { cls := .type "list_iterator", data := .fields #[.ref l, .int 0 0] }).get? (s.heap.push { cls := .type "list_iterator", data := .fields #[.ref l, .int 0 0] }).objs.size = none := Heap.get?_none_of_le (Nat.le_refl _)
  have f2 : FpOk X pins H (s.heap.push { cls := .type "list_iterator", data := .fields #[.ref l, .int 0 0] }).objs.size := I2.fpOk (Nat.le_refl _) (I2.hok.fresh (Nat.le_refl _))
  have g1 : (s.heap.push { cls := .type "list_iterator", data := .fields #[.ref l, .int 0 0] }).get? s.heap.objs.size = some { cls := .type "list_iterator", data := .fields #[.ref l, .int 0 0] } := Heap.get?_push_size _ rfl
  have t1 := nostk I gone
  have t2 := nostk I2 gone2
  have sz : (s.heap.push { cls := .type "list_iterator", data := .fields #[.ref l, .int 0 0] }).objs.size = s.heap.objs.size + 1 := size_push' ..
  have hls2 : (s.heap.push { cls := .type "list_iterator", data := .fields #[.ref l, .int 0 0] }).IsList l (as.map Value.ref).toArray := hls.push _
  have ll := Heap.lt_size ol
  generalize (s.heap.push { cls := .type "list_iterator", data := .fields #[.ref l, .int 0 0] }).objs.size = S at f2 t2 sz gone2 ⊢
  generalize hI : s.heap.objs.size = It at f1 g1 t1 sz ll ⊢
  have hne : l ≠ It := Nat.ne_of_lt ll
  have lno : l ∉ frs X.stack := fun z => by
    have := I.stkFree l z
    rw [hl] at this
    cases this
  have aNe : ∀ {i : Nat} {a : Addr}, as[i]? = some a → a ≠ l := fun {i a} h z => by
    subst z
    obtain ⟨r, _, e, _⟩ := hk i a h
    rw [hl] at e
    cases as with
    | nil => cases ne
    | cons x y => cases e
  have W : WalksS X.prog X.w X.A.in1 It [It, l] [It] (fun a b => b = a) (as.map Value.ref).toArray.size (fun i v => (as.map Value.ref).toArray[i]? = some v) (fun i s => s.heap.IsListIter It l i ∧ s.heap.IsList l (as.map Value.ref).toArray) := (Walks.list (A := X.A.in1) hr.hd It l hne (as.map Value.ref).toArray).toS
  refine ⟨It, [It, l], [It], fun a b => b = a, (as.map Value.ref).toArray.size, fun i v => (as.map Value.ref).toArray[i]? = some v, fun i s => s.heap.IsListIter It l i ∧ s.heap.IsList l (as.map Value.ref).toArray, fun s' => Inv X pins σ H s', fun i u s' => ∃ p vs n r, u = Value.ref p ∧ p ≠ It ∧ p ≠ S ∧ H p = none ∧ p ∉ frs X.stack ∧ ks[i]? = some r ∧ s'.heap.get? p = some { cls := .type "list", data := .seq (List.toArray vs) n } ∧ Vals (r.map V.int) vs,
    fun i j => ltI (ks.getD i []) (ks.getD j []), rfl, W, ⟨⟨_, g1, rfl, rfl⟩, hls2⟩, fun b z => ?_, by simpa using ne, ⟨?_, ?_, ?_, ?_⟩, I2, fun v s' hP hJ => ?_⟩
  · rw [sz]
    simp only [List.mem_cons, List.not_mem_nil, or_false] at z
    rcases z with rfl | rfl
    · exact Nat.lt_succ_self _
    · exact Nat.lt_succ_of_lt ll
  · intro s1 s2 hJ hm
    have hJ : Inv X pins σ H s1 := hJ
    have nx : ∀ {b : Addr} {o : HO}, H b = some o → b ∉ S :: [It] := fun e z => by
      rcases List.mem_cons.mp z with rfl | z
      · rw [f2.1] at e; cases e
      · rw [List.mem_singleton.mp z, f1.1] at e; cases e
    refine hJ.call' (ch := S :: [It]) hm.os (un_same (fun b o z _ _ c => hm.heap b o c z) (fun b o z _ _ c => ⟨o.slots, hm.heap b o c z⟩) fun b o z c => ⟨o, hm.heap b o c z⟩) (hok_stay hJ.hok fun b u o e z => hm.heap b u (nx e) z) ?_ fun b z => ?_
    · have := hm.gens
      rw [this]
      exact hJ.bare
    · rcases List.mem_cons.mp z with rfl | z
      · exact ⟨f2.2.2.2.1, f2.2.1, f2.2.2.2.2.1, f2.2.2.2.2.2⟩
      · rw [List.mem_singleton.mp z]
        exact ⟨f1.2.2.2.1, f1.2.1, f1.2.2.2.2.1, f1.2.2.2.2.2⟩
  · rintro i u s1 s2 ⟨p, vs, n, r, rfl, h1, h2, h3, h4, h5, h6, h7⟩ hm
    refine ⟨p, vs, n, r, rfl, h1, h2, h3, h4, h5, hm.heap p _ (fun z => ?_) h6, h7⟩
    rcases List.mem_cons.mp z with z | z
    · exact h2 z
    · exact h1 (List.mem_singleton.mp z)
  · intro i v s1 o Q1 E1 hi hP hJ hst hS hQ1
    have hJ : Inv X pins σ H s1 := hJ
    have hP : (as.map Value.ref).toArray[i]? = some v := hP
    obtain ⟨a, e1, rfl⟩ : ∃ a, as[i]? = some a ∧ Value.ref a = v := by
      rw [List.getElem?_toArray, List.getElem?_map] at hP
      exact Option.map_eq_some_iff.mp hP
    obtain ⟨r, kr, ha, hz2⟩ := hk i a e1
    obtain ⟨⟨oi, oi1, oi2, oi3⟩, ⟨ol', ol1, ol2⟩⟩ := hst
    refine key_turn F hb hr hJ ha hz2 fun p vs n s2 J2 kp pn ep vv => hQ1 (.ref p) s2 J2 ⟨⟨oi, kp _ _ oi1 ?_ t1, oi2, oi3⟩, ⟨ol', kp _ _ ol1 (fun z => aNe e1 z.symm) lno, ol2⟩⟩ (kp _ _ hS ?_ t2) ⟨p, vs, n, r, rfl, ?_, ?_, hJ.hok.gone pn, nostk hJ pn, kr, ep, vv⟩ ?_
    · rintro rfl
      rw [f1.1] at ha; cases ha
    · rintro rfl
      rw [f2.1] at ha; cases ha
    · rintro rfl
      rw [pn] at oi1; cases oi1
    · rintro rfl
      rw [pn] at hS; cases hS
    · rintro j u ⟨p', vs', n', r', rfl, h1, h2, h3, h4, h5, h6, h7⟩
      exact ⟨p', vs', n', r', rfl, h1, h2, h3, h4, h5, kp _ _ h6 (fun z => by rw [z, ha] at h3; cases h3) h4, h7⟩
  · rintro i j u v s1 Q1 E1 hJ ⟨p, vs, n, r, rfl, h1, h2, h3, h4, h5, h6, h7⟩ ⟨p', vs', n', r', rfl, h1', h2', h3', h4', h5', h6', h7'⟩ hq
    obtain ⟨z1, y1⟩ := vals_ints (hp := s1.heap) h7
    obtain ⟨z2, y2⟩ := vals_ints (hp := s1.heap) h7'
    refine PySem.W.lt_data (Reads.list h6 rfl rfl y1) (Reads.list h6' rfl rfl y2) (PySem.W.DatumOrd.alike r r') (fun e => nomatch e) ?_ ?_
    · have := dep_ints r
      have := Nat.min_le_left (PyData.list (r.map PyData.int)).depth (PyData.list (r'.map PyData.int)).depth
      have := hr.units
      show X.A.units + 1 + _ < _
      omega
    · rw [lt_ints]
      have e1 : ks.getD i [] = r := by rw [List.getD_eq_getElem?_getD, h5]; rfl
      have e2 : ks.getD j [] = r' := by rw [List.getD_eq_getElem?_getD, h5']; rfl
      rw [e1, e2] at hq
      exact hq
  · have hP : (as.map Value.ref).toArray[argBest (fun i j => ltI (ks.getD i []) (ks.getD j [])) ((as.map Value.ref).toArray.size - 1)]? = some v := hP
    rw [show (as.map Value.ref).toArray.size = ks.length by simp [lk], List.getElem?_toArray, List.getElem?_map] at hP
    obtain ⟨a, e1, rfl⟩ := Option.map_eq_some_iff.mp hP
    exact ⟨.ref a, H, hJ, rfl, hQ a e1⟩
end

/-! ### the rule -/
def rMinKey (q : Addr) : List V → List V → Hp → VK → Prop := fun vs zs H Q => ∃ (l : Addr) (as : List Addr) (ks : List (List Int)), vs = [.ref l] ∧ zs = [.ref q] ∧ H l = some (.lst (as.map V.ref)) ∧ 0 < as.length ∧ ks.length = as.length ∧
  (∀ (i : Nat) a, as[i]? = some a → ∃ r, ks[i]? = some r ∧ H a = some (famC r) ∧ r.length ≤ 100) ∧ ∀ a, as[leastI ks]? = some a → Q (.ref a) H
section
variable {X : Cx} {k j : Nat} {x : Str} {q : Addr} {e : Expr} {es : List Expr} {t : TA} {p pos xp kp : Pos}
theorem pe_minK (c : Cal X.prog X.w X.K X.mg X.base k x spRest) (g : X.mg x = some (.ref q)) (hr : Room j X.A) (hk : k + 1 ≤ j) (hg : Gl X "min") (hm : X.mg "min" = none) (hgx : Gl X x) (ha : PA X (e :: es) t) (hdb : (x == ("__debug__" : Str)) = false := by decide)
    (he : backTo pos (starEach (e :: es) X.env) = (false, eval e X.env) :: backTo pos (starEach es X.env) := by rfl) (hpl : (backTo pos (starEach (e :: es) X.env)).any (·.1) = false := by rfl)
    (hall : (backToKw pos (keywordEach [⟨some (Str.ofString "key"), .Name x xp, kp⟩] X.env)).all (·.1.isSome) = true := by rfl) (hnone : (backToKw pos (keywordEach [⟨some (Str.ofString "key"), .Name x xp, kp⟩] X.env)).any (·.1.isNone) = false := by rfl) (hks : (backToKw pos (keywordEach [⟨some (Str.ofString "key"), .Name x xp, kp⟩] X.env)).filterMap (·.1) = [Str.ofString "key"] := by rfl) :
    PE X (.Call (.Name "min" p) (e :: es) [⟨some (Str.ofString "key"), .Name x xp, kp⟩] pos) (tCKw (rMinKey q) t (tCons (tC (.ref q)) tNil)) := by
  obtain ⟨f, fd, ps, F, hf, hk', hb⟩ := c.ex
  have e0 := hf.symm.trans g
  cases e0
  refine pe_callBK (id := "min") (ks := [Str.ofString "key"]) ?_ hg hm (by rfl) ha (pk_cons (pe_gA g rfl hgx hdb) pk_nil) (by decide) (by decide) he hpl hall hnone hks
  intro pins s σ H xs zs us ws Q I rx rz h
  obtain ⟨l, as, ks, rfl, rfl, h1, h2, h3, h4, h5⟩ := h
  obtain rfl := Vals.ref1 rx
  obtain rfl := Vals.ref1 rz
  exact min_run F hb (hr.mono hk) I h1 h2 h3 h4 h5
end
def keyI (f : Fml) : List Int := (f.drop 1).map fun o => o.getD 0
theorem key_rest (r : List Int) : keyI (restF r) = r := by
  show (r.map some).map _ = r
  rw [List.map_map]
  exact (List.map_congr_left fun x _ => rfl).trans (List.map_id r)
theorem its_refs {F : Hp} : ∀ {us : List V} {l : List Fml}, HG.Its (aL aO) F us l → (∀ f ∈ l, ∃ r, f = restF r ∧ r.length ≤ 100) →
    ∃ as : List Addr, us = as.map V.ref ∧ as.length = l.length ∧ ∀ (i : Nat) a, as[i]? = some a → ∃ r, (l.map keyI)[i]? = some r ∧ F a = some (famC r) ∧ r.length ≤ 100
  | [], [], _, _ => ⟨[], rfl, rfl, fun i a h => by cases h⟩
  | u :: us, f :: l, h, hk => by
    cases h with
    | cons x y =>
      obtain ⟨as, e1, e2, e3⟩ := its_refs y fun g hg => hk g (List.mem_cons_of_mem _ hg)
      obtain ⟨p, ws, rfl, fp, i⟩ := x
      obtain ⟨r, rfl, hr⟩ := hk f List.mem_cons_self
      refine ⟨p :: as, by rw [e1]; rfl, by rw [List.length_cons, List.length_cons, e2], fun i' a h => ?_⟩
      cases i' with
      | zero =>
        cases h
        refine ⟨r, by rw [List.map_cons, key_rest]; rfl, ?_, hr⟩
        have := its_tM.mp i
        rw [fp, this]
        show some (HO.lst (optV none :: (r.map some).map optV)) = _
        rw [List.map_map]; rfl
      | succ i' => exact e3 i' a h
section
variable {c : Cw} {Γ : List Spec} {ta : TE} {q : Addr}
theorem eg_minK {l : List Fml} {f : Fml} (h : EG c Γ ta (aL (aL aO)) l) (ne : l ≠ []) (hk : ∀ f ∈ l, ∃ r, f = restF r ∧ r.length ≤ 100) (hf : l[leastI (l.map keyI)]? = some f) : EG c Γ (tCKw (rMinKey q) (tCons ta tNil) (tCons (tC (.ref q)) tNil)) (aL aO) f := fun σ F Ms H w Q q0 =>
  h σ F Ms H w _ fun v F1 H1 s1 ⟨p, us, e, fp, i⟩ => by
    obtain ⟨as, e1, e2, e3⟩ := its_refs i hk
    subst e1
    have l0 : 0 < l.length := List.length_pos_iff.mpr ne
    refine ⟨p, as, l.map keyI, by rw [e], rfl, s1.fh _ _ fp, by omega, by rw [List.length_map, e2], fun i a ha => ?_, fun a ha => ?_⟩
    · obtain ⟨r, r1, r2, r3⟩ := e3 i a ha
      exact ⟨r, r1, s1.fh _ _ r2, r3⟩
    · refine q0 (.ref a) F1 H1 s1 ?_
      obtain ⟨u, hu, r⟩ := pr_get2 i hf
      rw [List.getElem?_map, ha] at hu
      cases hu
      exact r
end
/-! ### the order of lists -/
theorem ltI_irr : ∀ a : List Int, ltI a a = false
  | [] => rfl
  | x :: xs => by
    show (if x = x then ltI xs xs else decide (x < x)) = false
    rw [if_pos rfl]
    exact ltI_irr xs
theorem ltI_tr : ∀ a b d : List Int, ltI a b = true → ltI b d = true → ltI a d = true
  | [], [], _, h, _ => by cases h
  | [], _ :: _, [], _, h => by cases h
  | [], _ :: _, _ :: _, _, _ => rfl
  | _ :: _, [], _, h, _ => by cases h
  | _ :: _, _ :: _, [], _, h => by cases h
  | x :: xs, y :: ys, z :: zs, h, k => by
    have h : (if x = y then ltI xs ys else decide (x < y)) = true := h
    have k : (if y = z then ltI ys zs else decide (y < z)) = true := k
    show (if x = z then ltI xs zs else decide (x < z)) = true
    by_cases e1 : x = y
    · rw [if_pos e1] at h
      by_cases e2 : y = z
      · rw [if_pos e2] at k
        rw [if_pos (e1.trans e2)]
        exact ltI_tr xs ys zs h k
      · rw [if_neg e2] at k
        have := of_decide_eq_true k
        rw [if_neg (by omega), decide_eq_true_eq]
        omega
    · rw [if_neg e1] at h
      have h := of_decide_eq_true h
      by_cases e2 : y = z
      · rw [if_neg (by omega), decide_eq_true_eq]
        omega
      · rw [if_neg e2] at k
        have := of_decide_eq_true k
        rw [if_neg (by omega), decide_eq_true_eq]
        omega
theorem ltI_eq2 : ∀ a b : List Int, ltI a b = false → ltI b a = false → a = b
  | [], [], _, _ => rfl
  | [], _ :: _, h, _ => by cases h
  | _ :: _, [], _, h => by cases h
  | x :: xs, y :: ys, h, k => by
    have h : (if x = y then ltI xs ys else decide (x < y)) = false := h
    have k : (if y = x then ltI ys xs else decide (y < x)) = false := k
    by_cases e : x = y
    · rw [if_pos e] at h
      rw [if_pos e.symm] at k
      rw [e, ltI_eq2 xs ys h k]
    · rw [if_neg e] at h
      rw [if_neg (fun z => e z.symm)] at k
      have := of_decide_eq_false h
      have := of_decide_eq_false k
      omega
theorem best_le (ks : List (List Int)) : ∀ j, argBest (fun i j => ltI (ks.getD i []) (ks.getD j [])) j ≤ j ∧ ∀ i, i ≤ j → ltI (ks.getD i []) (ks.getD (argBest (fun i j => ltI (ks.getD i []) (ks.getD j [])) j) []) = false
  | 0 => ⟨Nat.le_refl _, fun i h => by rw [show i = 0 by omega]; exact ltI_irr _⟩
  | j + 1 => by
    obtain ⟨h1, h2⟩ := best_le ks j
    show (if ltI (ks.getD (j + 1) []) (ks.getD (argBest (fun i j => ltI (ks.getD i []) (ks.getD j [])) j) []) = true then j + 1 else argBest (fun i j => ltI (ks.getD i []) (ks.getD j [])) j) ≤ j + 1 ∧ ∀ i, i ≤ j + 1 → ltI (ks.getD i []) (ks.getD (if ltI (ks.getD (j + 1) []) (ks.getD (argBest (fun i j => ltI (ks.getD i []) (ks.getD j [])) j) []) = true then j + 1 else argBest (fun i j => ltI (ks.getD i []) (ks.getD j [])) j) []) = false
    generalize argBest (fun i j => ltI (ks.getD i []) (ks.getD j [])) j = b at h1 h2
    by_cases c : ltI (ks.getD (j + 1) []) (ks.getD b []) = true
    · rw [if_pos c]
      refine ⟨Nat.le_refl _, fun i hi => ?_⟩
      by_cases z : i = j + 1
      · rw [z]; exact ltI_irr _
      · cases q : ltI (ks.getD i []) (ks.getD (j + 1) []) with
        | false => rfl
        | true =>
          have := ltI_tr _ _ _ q c
          rw [h2 i (by omega)] at this
          cases this
    · rw [if_neg c]
      refine ⟨by omega, fun i hi => ?_⟩
      by_cases z : i = j + 1
      · rw [z]; exact Bool.not_eq_true _ ▸ c
      · exact h2 i (by omega)
/-- the least one, known -/
theorem leastI_is {l : List Fml} {f : Fml} (hk : ∀ f ∈ l, ∃ r, f = restF r ∧ r.length ≤ 100) (hf : f ∈ l) (h : ∀ g ∈ l, ltI (keyI g) (keyI f) = false) : l[leastI (l.map keyI)]? = some f := by
  obtain ⟨i, hi⟩ := List.mem_iff_getElem?.mp hf
  have il := (List.getElem?_eq_some_iff.mp hi).1
  have b := best_le (l.map keyI) (l.length - 1)
  unfold leastI
  rw [List.length_map]
  generalize argBest (fun i j => ltI ((l.map keyI).getD i []) ((l.map keyI).getD j [])) (l.length - 1) = m at b
  obtain ⟨b1, b2⟩ := b
  have b2 := b2 i (by omega)
  obtain ⟨g, hg⟩ : ∃ g, l[m]? = some g := ⟨_, List.getElem?_eq_getElem (by omega)⟩
  have e1 : (l.map keyI).getD i [] = keyI f := by rw [List.getD_eq_getElem?_getD, List.getElem?_map, hi]; rfl
  have e2 : (l.map keyI).getD m [] = keyI g := by rw [List.getD_eq_getElem?_getD, List.getElem?_map, hg]; rfl
  rw [e1, e2] at b2
  have gm := List.mem_of_getElem? hg
  have e := ltI_eq2 _ _ (h g gm) b2
  obtain ⟨r1, rfl, _⟩ := hk f hf
  obtain ⟨r2, rfl, _⟩ := hk g gm
  rw [key_rest, key_rest] at e
  rw [hg, e]
end HG

/-! all families, one by one -/
namespace HG
open PySem PyProof.Rows L2 Evl HW
def extF (rows : List Rw3) (t : Int) (f : Fml) : List Fml := (rows.filter fun r => decide (r.2.1 = t)).map fun r => f ++ [some r.1]
def allN (rows : List Rw3) : Nat → List Fml
  | 0 => [[none]]
  | i + 1 => (allN rows i).flatMap (extF rows (1 + (i : Int)))
noncomputable def allF (n : Int) (rows : List Rw3) : List Fml := (allN rows (n - 1).toNat).filter (famB n rows)
theorem allN_shape (rows : List Rw3) : ∀ (i : Nat) (f : Fml), f ∈ allN rows i → ∃ r : List Int, f = restF r ∧ r.length = i
  | 0, f, h => ⟨[], List.mem_singleton.mp h, rfl⟩
  | i + 1, f, h => by
    obtain ⟨g, hg, h⟩ := List.mem_flatMap.mp h
    obtain ⟨r, rfl, hr⟩ := allN_shape rows i g hg
    obtain ⟨x, _, rfl⟩ := List.mem_map.mp h
    refine ⟨r ++ [x.1], ?_, by rw [List.length_append, hr]; rfl⟩
    show none :: (r.map some ++ [some x.1]) = none :: (r ++ [x.1]).map some
    rw [List.map_append]; rfl
theorem ext_len {rows : List Rw3} (h : rows.length ≤ 12) (t : Int) (f : Fml) : (extF rows t f).length ≤ 12 := by
  unfold extF
  rw [List.length_map]
  exact Nat.le_trans (List.length_filter_le _ _) h
theorem flatL_len {g : Fml → List Fml} (hg : ∀ f, (g f).length ≤ 12) : ∀ l : List Fml, (l.flatMap g).length ≤ l.length * 12
  | [] => Nat.le_refl _
  | x :: r => by
    have h1 := hg x
    have h2 := flatL_len hg r
    rw [List.flatMap_cons, List.length_append, List.length_cons, Nat.succ_mul]
    omega
theorem allN_len {rows : List Rw3} (h : rows.length ≤ 12) : ∀ i, (allN rows i).length ≤ 12 ^ i
  | 0 => Nat.le_refl _
  | i + 1 => by
    have h1 := flatL_len (ext_len h (1 + (i : Int))) (allN rows i)
    have h2 := allN_len h i
    rw [Nat.pow_succ]
    exact Nat.le_trans h1 (Nat.mul_le_mul_right 12 h2)
theorem fam_take {n : Int} {rows : List Rw3} {fam : Fml} (I : IsFam n rows fam) (n1 : 1 ≤ n) : ∀ i : Nat, (i : Int) < n → fam.take (i + 1) ∈ allN rows i
  | 0, _ => by
    rw [take_succ_of I.root]
    exact List.mem_singleton.mpr rfl
  | i + 1, h => by
    have ih := fam_take I n1 i (by omega)
    obtain ⟨a, ha, ⟨c, hc⟩⟩ := I.hear ((i : Int) + 1) (by omega) (by omega)
    rw [show ((i : Int) + 1).toNat = i + 1 by omega] at ha
    rw [take_succ_of ha]
    refine List.mem_flatMap.mpr ⟨_, ih, List.mem_map.mpr ⟨(a, (i : Int) + 1, c), List.mem_filter.mpr ⟨hc, decide_eq_true ?_⟩, rfl⟩⟩
    show (i : Int) + 1 = 1 + (i : Int)
    omega
theorem mem_allF {n : Int} {rows : List Rw3} {fam : Fml} (n1 : 1 ≤ n) : fam ∈ allF n rows ↔ IsFam n rows fam := by
  unfold allF
  rw [List.mem_filter, famB_true]
  refine ⟨fun h => h.2, fun I => ⟨?_, I⟩⟩
  have := fam_take I n1 (n - 1).toNat (by omega)
  have ln := I.len
  rwa [List.take_of_length_le (by omega)] at this
theorem allF_rest {n : Int} {rows : List Rw3} {f : Fml} (n2 : n ≤ 12) (h : f ∈ allF n rows) : ∃ r, f = restF r ∧ r.length ≤ 100 := by
  obtain ⟨r, e, hr⟩ := allN_shape rows _ f (List.mem_filter.mp h).1
  exact ⟨r, e, by omega⟩
theorem allF_none {n : Int} {rows : List Rw3} (n1 : 1 ≤ n) (R : RowsIn n rows) (h : allF n rows = []) : leastV n rows = none := (leastV_none R).mpr fun fam I => by
  have := (mem_allF n1).mpr I
  rw [h] at this
  cases this
theorem allF_some {n : Int} {rows : List Rw3} (n1 : 1 ≤ n) (R : RowsIn n rows) (h : allF n rows ≠ []) : ∃ m, leastV n rows = some m := by
  cases e : leastV n rows with
  | some m => exact ⟨m, rfl⟩
  | none =>
    refine absurd (List.eq_nil_iff_forall_not_mem.mpr fun f hf => ?_) h
    exact (leastV_none R).mp e f ((mem_allF n1).mp hf)
section
variable {n m : Int} {rows : List Rw3}
theorem low_mem (n1 : 1 ≤ n) (R : RowsIn n rows) (e : leastV n rows = some m) : m ∈ (allF n rows).map (HW.worth n rows) ∧ ∀ x ∈ (allF n rows).map (HW.worth n rows), m ≤ x := by
  obtain ⟨⟨f, I, w⟩, h⟩ := (leastV_some R).mp e
  refine ⟨List.mem_map.mpr ⟨f, (mem_allF n1).mpr I, w⟩, fun x hx => ?_⟩
  obtain ⟨g, hg, rfl⟩ := List.mem_map.mp hx
  exact h g ((mem_allF n1).mp hg)
noncomputable def goodF (n : Int) (rows : List Rw3) (m : Int) : List Fml := (allF n rows).filter fun f => decide (HW.worth n rows f = m)
theorem mem_good (n1 : 1 ≤ n) {f : Fml} : f ∈ goodF n rows m ↔ IsFam n rows f ∧ HW.worth n rows f = m := by
  unfold goodF
  rw [List.mem_filter, mem_allF n1, decide_eq_true_eq]
def hearsB (a b : Int) (f : Fml) : Bool := decide (some (HW.par f b) = some a)
theorem hears_iff {a b : Int} {f : Fml} : hearsB a b f = true ↔ HW.par f b = a := by
  unfold hearsB
  rw [decide_eq_true_eq]
  exact ⟨fun h => Option.some.inj h, fun h => by rw [h]⟩
noncomputable def havF (n : Int) (rows : List Rw3) (m a b : Int) : List Fml := (goodF n rows m).filter (hearsB a b)
noncomputable def worthsF (n : Int) (rows : List Rw3) (a b : Int) : List Int := ((allF n rows).filter (hearsB a b)).map (HW.worth n rows)
theorem lackA_none {a b : Int} (n1 : 1 ≤ n) (R : RowsIn n rows) (hb : 1 ≤ b ∧ b < n) (h : worthsF n rows a b = []) : lackV n rows a b = none := by
  have : leastV n (onlyR rows a b) = none := (only_none R hb).mpr fun fam I q => by
    have : HW.worth n rows fam ∈ worthsF n rows a b := List.mem_map.mpr ⟨fam, List.mem_filter.mpr ⟨(mem_allF n1).mpr I, hears_iff.mpr q⟩, rfl⟩
    rw [h] at this
    cases this
  unfold lackV
  rw [this]
theorem lackA_some {a b : Int} (n1 : 1 ≤ n) (R : RowsIn n rows) (hb : 1 ≤ b ∧ b < n) (e : leastV n rows = some m) (h : worthsF n rows a b ≠ []) : ∃ k, lackV n rows a b = some (k - m) ∧ k ∈ worthsF n rows a b ∧ ∀ x ∈ worthsF n rows a b, k ≤ x := by
  cases q : leastV n (onlyR rows a b) with
  | none =>
    refine absurd (List.eq_nil_iff_forall_not_mem.mpr fun x hx => ?_) h
    obtain ⟨f, hf, _⟩ := List.mem_map.mp hx
    obtain ⟨h1, h2⟩ := List.mem_filter.mp hf
    exact (only_none R hb).mp q f ((mem_allF n1).mp h1) (hears_iff.mp h2)
  | some k =>
    obtain ⟨⟨f, I, p, w⟩, hl⟩ := (only_some R hb).mp q
    refine ⟨k, by unfold lackV; rw [q, e]; rfl, List.mem_map.mpr ⟨f, List.mem_filter.mpr ⟨(mem_allF n1).mpr I, hears_iff.mpr p⟩, w⟩, fun x hx => ?_⟩
    obtain ⟨g, hg, rfl⟩ := List.mem_map.mp hx
    obtain ⟨h1, h2⟩ := List.mem_filter.mp hg
    exact hl g ((mem_allF n1).mp h1) (hears_iff.mp h2)
theorem lackA_zero {a b : Int} (n1 : 1 ≤ n) (R : RowsIn n rows) (hb : 1 ≤ b ∧ b < n) (e : leastV n rows = some m) : lackV n rows a b = some 0 ↔ ((havF n rows m a b).length : Int) > 0 := by
  have low := ((leastV_some R).mp e).2
  have pos : ((havF n rows m a b).length : Int) > 0 ↔ ∃ f, f ∈ havF n rows m a b := by
    constructor
    · intro h
      exact List.exists_mem_of_length_pos (by omega)
    · rintro ⟨f, hf⟩
      have := List.length_pos_of_mem hf
      omega
  rw [pos]
  have step : lackV n rows a b = some 0 ↔ leastV n (onlyR rows a b) = some m := by
    unfold lackV
    cases q : leastV n (onlyR rows a b) with
    | none => exact ⟨fun h => (nomatch h), fun h => (nomatch h)⟩
    | some k =>
      rw [e]
      show some (k - m) = some 0 ↔ some k = some m
      rw [Option.some.injEq, Option.some.injEq]
      omega
  rw [step, only_some R hb]
  constructor
  · rintro ⟨⟨f, I, p, w⟩, _⟩
    exact ⟨f, List.mem_filter.mpr ⟨(mem_good n1).mpr ⟨I, w⟩, hears_iff.mpr p⟩⟩
  · rintro ⟨f, hf⟩
    obtain ⟨h1, h2⟩ := List.mem_filter.mp hf
    obtain ⟨I, w⟩ := (mem_good n1).mp h1
    exact ⟨⟨f, I, hears_iff.mp h2, w⟩, fun g J _ => low g J⟩
theorem filter_all {α : Type} (p : α → Bool) : ∀ l : List α, (l.filter p).length = l.length ↔ ∀ x ∈ l, p x = true
  | [] => ⟨fun _ _ h => (nomatch h), fun _ => rfl⟩
  | x :: r => by
    have ih := filter_all p r
    have le := List.length_filter_le p r
    cases c : p x with
    | true =>
      rw [List.filter_cons_of_pos c, List.length_cons, List.length_cons, Nat.add_right_cancel_iff, ih]
      exact ⟨fun h y hy => by
        rcases List.mem_cons.mp hy with rfl | hy
        · exact c
        · exact h y hy, fun h y hy => h y (List.mem_cons_of_mem _ hy)⟩
    | false =>
      rw [List.filter_cons_of_neg (by rw [c]; decide), List.length_cons]
      refine ⟨fun h => by omega, fun h => ?_⟩
      have := h x List.mem_cons_self
      rw [c] at this
      cases this
theorem less_tight {a b : Int} (n1 : 1 ≤ n) (R : RowsIn n rows) (hb : 1 ≤ b ∧ b < n) (e : leastV n rows = some m) : leastV n (lessR rows a b) ≠ leastV n rows ↔ (havF n rows m a b).length = (goodF n rows m).length := by
  have low := ((leastV_some R).mp e).2
  unfold havF
  rw [filter_all, e, ne_eq, less_some R hb]
  constructor
  · intro h f hf
    obtain ⟨I, w⟩ := (mem_good n1).mp hf
    refine hears_iff.mpr (Classical.byContradiction fun q => h ⟨⟨f, I, q, w⟩, fun g J _ => low g J⟩)
  · rintro h ⟨⟨f, I, q, w⟩, _⟩
    exact q (hears_iff.mp (h f ((mem_good n1).mpr ⟨I, w⟩)))
theorem free_all (G : GoodR n rows) (e : leastV n rows = some m) : freeR n rows = (rows.filter fun r => decide (((havF n rows m r.1 r.2.1).length : Int) > 0)).map fun r => (r.1, r.2.1) := by
  unfold freeR
  congr 1
  refine List.filter_congr fun r hr => ?_
  exact decide_eq_decide.mpr (lackA_zero G.n1 G.rin (G.rg r hr).2.1 e)
theorem bound_all (G : GoodR n rows) (e : leastV n rows = some m) : boundR n rows = (rows.filter fun r => decide (((havF n rows m r.1 r.2.1).length : Int) = ((goodF n rows m).length : Int))).map fun r => (r.1, r.2.1) := by
  have n1 := G.n1
  unfold boundR freeR
  rw [List.filter_map, List.filter_filter]
  congr 1
  refine List.filter_congr fun r hr => ?_
  have hb := (G.rg r hr).2.1
  have z := lackA_zero (a := r.1) n1 G.rin hb e
  have t := less_tight (a := r.1) n1 G.rin hb e
  have gp : 0 < (goodF n rows m).length := by
    obtain ⟨⟨f, I, w⟩, _⟩ := (leastV_some G.rin).mp e
    exact List.length_pos_of_mem ((mem_good n1).mpr ⟨I, w⟩)
  show ((!decide (leastV n (lessR rows r.1 r.2.1) = leastV n rows)) && decide (lackV n rows r.1 r.2.1 = some 0)) = _
  by_cases c : (havF n rows m r.1 r.2.1).length = (goodF n rows m).length
  · rw [decide_eq_false (t.mpr c), decide_eq_true (z.mpr (by omega)), decide_eq_true (show ((havF n rows m r.1 r.2.1).length : Int) = ((goodF n rows m).length : Int) by omega)]
    rfl
  · have : leastV n (lessR rows r.1 r.2.1) = leastV n rows := Classical.byContradiction fun q => c (t.mp q)
    rw [decide_eq_true this, decide_eq_false (show ¬ ((havF n rows m r.1 r.2.1).length : Int) = ((goodF n rows m).length : Int) by omega)]
    rfl
theorem key_tl {f : Fml} (I : IsFam n rows f) : keyI f = tlF n f := by
  unfold keyI
  rw [tl_drop I, List.map_map]
  exact (List.map_congr_left fun x _ => rfl).trans (List.map_id _)
theorem first_good (G : GoodR n rows) (e : leastV n rows = some m) : ∃ f, firstV n rows = some f ∧ (goodF n rows m)[leastI ((goodF n rows m).map keyI)]? = some f := by
  have n1 := G.n1
  obtain ⟨f, F⟩ := first_all G.rin e
  have w := F.low
  rw [e] at w
  have w := Option.some.inj w
  refine ⟨f, firstV_eq F, leastI_is (fun g hg => allF_rest G.n2 (List.mem_filter.mp hg).1) ((mem_good n1).mpr ⟨F.isf, w.symm⟩) fun g hg => ?_⟩
  obtain ⟨J, v⟩ := (mem_good n1).mp hg
  rw [key_tl J, key_tl F.isf]
  exact Ahead.lt (F.fst g J (by rw [v, w]))
end
end HG

namespace HG
open PySem PyProof.Rows L2 Evl HW
def top (i : Nat) : Stmt := PySem.Challenge.pw_hearwood_k13_whole_by_all_families.main.body.getD i (.Pass ⟨0, 0, 0, 0⟩)
/-- what the top has written -/
structure Txt (K : PySem.W.Frag) (mg : Str → Option Value) : Prop where
  cl : Cls K (He.ga K "Book")
  nS : NoAttr K (He.ga K "Book") "size"
  nC : NoAttr K (He.ga K "Book") "costs"
  g_Book : mg "Book" = some (.ref (He.ga K "Book"))
  mkr : Mk K (He.ga K "Book") (He.ma K (He.ga K "Book") "__init__")
  m_B_many : Meth K (He.ga K "Book") "many" (He.ma K (He.ga K "Book") "many")
  m_B_ask : Meth K (He.ga K "Book") "ask" (He.ma K (He.ga K "Book") "ask")
  m_B_let : Meth K (He.ga K "Book") "let" (He.ma K (He.ga K "Book") "let")
  m_B_cost : Meth K (He.ga K "Book") "cost" (He.ma K (He.ga K "Book") "cost")
  m_B_hearings : Meth K (He.ga K "Book") "hearings" (He.ma K (He.ga K "Book") "hearings")
  b_len : mg "len" = none
  b_range : mg "range" = none
  b_list : mg "list" = none
  b_sorted : mg "sorted" = none
  b_all : mg "all" = none
  b_sum : mg "sum" = none
  b_isinstance : mg "isinstance" = none
  b_int : mg "int" = none
  b_str : mg "str" = none
  b_max : mg "max" = none
  b_min : mg "min" = none
  b_bool : mg "bool" = none
  b_tuple : mg "tuple" = none
  b_ValueError : mg "ValueError" = none
  g_MOST_TELLERS : ∃ u, mg "MOST_TELLERS" = some u ∧ RelV (.int 12) u
  f_comes_up : mg "comes_up" = some (.ref (He.ga K "comes_up"))
  k_comes_up : PySem.W.keepIn K (.ref (He.ga K "comes_up")) = true
  f_is_family : mg "is_family" = some (.ref (He.ga K "is_family"))
  k_is_family : PySem.W.keepIn K (.ref (He.ga K "is_family")) = true
  f_worth : mg "worth" = some (.ref (He.ga K "worth"))
  k_worth : PySem.W.keepIn K (.ref (He.ga K "worth")) = true
  f_places_of : mg "places_of" = some (.ref (He.ga K "places_of"))
  k_places_of : PySem.W.keepIn K (.ref (He.ga K "places_of")) = true
  f_cheapest : mg "cheapest" = some (.ref (He.ga K "cheapest"))
  k_cheapest : PySem.W.keepIn K (.ref (He.ga K "cheapest")) = true
  f_ring_of : mg "ring_of" = some (.ref (He.ga K "ring_of"))
  k_ring_of : PySem.W.keepIn K (.ref (He.ga K "ring_of")) = true
  f_lessened : mg "lessened" = some (.ref (He.ga K "lessened"))
  k_lessened : PySem.W.keepIn K (.ref (He.ga K "lessened")) = true
  f_joined : mg "joined" = some (.ref (He.ga K "joined"))
  k_joined : PySem.W.keepIn K (.ref (He.ga K "joined")) = true
  f_solved : mg "solved" = some (.ref (He.ga K "solved"))
  k_solved : PySem.W.keepIn K (.ref (He.ga K "solved")) = true
  f_judged : mg "judged" = some (.ref (He.ga K "judged"))
  k_judged : PySem.W.keepIn K (.ref (He.ga K "judged")) = true
  f_least : mg "least" = some (.ref (He.ga K "least"))
  k_least : PySem.W.keepIn K (.ref (He.ga K "least")) = true
  f_only : mg "only" = some (.ref (He.ga K "only"))
  k_only : PySem.W.keepIn K (.ref (He.ga K "only")) = true
  f_less : mg "less" = some (.ref (He.ga K "less"))
  k_less : PySem.W.keepIn K (.ref (He.ga K "less")) = true
  f_first : mg "first" = some (.ref (He.ga K "first"))
  k_first : PySem.W.keepIn K (.ref (He.ga K "first")) = true
  f_lack : mg "lack" = some (.ref (He.ga K "lack"))
  k_lack : PySem.W.keepIn K (.ref (He.ga K "lack")) = true
  f_free : mg "free" = some (.ref (He.ga K "free"))
  k_free : PySem.W.keepIn K (.ref (He.ga K "free")) = true
  f_bound : mg "bound" = some (.ref (He.ga K "bound"))
  k_bound : PySem.W.keepIn K (.ref (He.ga K "bound")) = true
  f_w_cell_at : mg "_law_cell_at" = some (.ref (He.ga K "_law_cell_at"))
  k_w_cell_at : PySem.W.keepIn K (.ref (He.ga K "_law_cell_at")) = true
  f_w_whole : mg "_law_whole" = some (.ref (He.ga K "_law_whole"))
  k_w_whole : PySem.W.keepIn K (.ref (He.ga K "_law_whole")) = true
  f_w_mix : mg "_law_mix" = some (.ref (He.ga K "_law_mix"))
  k_w_mix : PySem.W.keepIn K (.ref (He.ga K "_law_mix")) = true
  f_w_rows : mg "_law_rows" = some (.ref (He.ga K "_law_rows"))
  k_w_rows : PySem.W.keepIn K (.ref (He.ga K "_law_rows")) = true
  f_w_book : mg "_law_book" = some (.ref (He.ga K "_law_book"))
  k_w_book : PySem.W.keepIn K (.ref (He.ga K "_law_book")) = true
  f_w_costs : mg "_law_costs" = some (.ref (He.ga K "_law_costs"))
  k_w_costs : PySem.W.keepIn K (.ref (He.ga K "_law_costs")) = true
  f_w_family : mg "_law_family" = some (.ref (He.ga K "_law_family"))
  k_w_family : PySem.W.keepIn K (.ref (He.ga K "_law_family")) = true
  f_w_worth : mg "_law_worth" = some (.ref (He.ga K "_law_worth"))
  k_w_worth : PySem.W.keepIn K (.ref (He.ga K "_law_worth")) = true
  f_w_all : mg "_law_all" = some (.ref (He.ga K "_law_all"))
  k_w_all : PySem.W.keepIn K (.ref (He.ga K "_law_all")) = true
  f_w_pairs : mg "_law_pairs" = some (.ref (He.ga K "_law_pairs"))
  k_w_pairs : PySem.W.keepIn K (.ref (He.ga K "_law_pairs")) = true
  f_w_rest : mg "_law_rest" = some (.ref (He.ga K "_law_rest"))
  k_w_rest : PySem.W.keepIn K (.ref (He.ga K "_law_rest")) = true
  f_w_lack_is : mg "_law_lack_is" = some (.ref (He.ga K "_law_lack_is"))
  k_w_lack_is : PySem.W.keepIn K (.ref (He.ga K "_law_lack_is")) = true
  f_law : mg "law" = some (.ref (He.ga K "law"))
  k_law : PySem.W.keepIn K (.ref (He.ga K "law")) = true
  x_HearError : ExcF K mg "HearError"
  x_NoBook : ExcF K mg "NoBook"
  x_NoTeller : ExcF K mg "NoTeller"
  x_Alone : ExcF K mg "Alone"
  x_First : ExcF K mg "First"
  x_NoHearing : ExcF K mg "NoHearing"
  x_NoFamily : ExcF K mg "NoFamily"
abbrev CB (K : PySem.W.Frag) : Addr := He.ga K "Book"
section
local macro_rules | `(tactic| walk_at "ev") => `(tactic| first
  | ((with_reducible apply eg_var); rfl)
  | with_reducible exact eg_int
  | with_reducible exact eg_bl
  | with_reducible exact eg_str
  | with_reducible exact eg_non
  | ((with_reducible apply eg_Ii); walk_at "ev"; walk_at "ev")
  | ((with_reducible apply eg_Ib); walk_at "ev"; walk_at "ev")
  | ((with_reducible apply eg_Ic); walk_at "ev"; walk_at "ev"; walk_at "side")
  | ((with_reducible apply eg_un); walk_at "ev")
  | ((with_reducible apply eg_chain); walk_at "ev"; walk_at "ev"; walk_at "ev")
  | ((with_reducible apply eg_eqI); walk_at "ev"; walk_at "ev")
  | ((with_reducible apply eg_neI); walk_at "ev"; walk_at "ev")
  | ((with_reducible apply eg_eqS); walk_at "ev"; walk_at "ev")
  | ((with_reducible apply eg_neS); walk_at "ev"; walk_at "ev")
  | ((with_reducible apply eg_eqO); walk_at "ev"; walk_at "ev")
  | ((with_reducible apply eg_neO); walk_at "ev"; walk_at "ev")
  | ((with_reducible apply eg_isO); walk_at "ev")
  | ((with_reducible apply eg_notO); walk_at "ev")
  | ((with_reducible apply eg_isT objT3); walk_at "ev")
  | ((with_reducible apply eg_isT objL); walk_at "ev")
  | ((with_reducible apply eg_p0); walk_at "ev")
  | ((with_reducible apply eg_p1); walk_at "ev")
  | ((with_reducible apply eg_t0); walk_at "ev")
  | ((with_reducible apply eg_t1); walk_at "ev")
  | ((with_reducible apply eg_t2); walk_at "ev")
  | ((with_reducible apply eg_len (τ := aRow)); walk_at "ev")
  | ((with_reducible apply eg_len); walk_at "ev")
  | ((with_reducible apply eg_tup2); walk_at "ev"; walk_at "ev")
  | ((with_reducible apply eg_tup3); walk_at "ev"; walk_at "ev"; walk_at "ev")
  | ((with_reducible apply eg_in); walk_at "ev"; walk_at "ev")
  | ((with_reducible apply eg_nin); walk_at "ev"; walk_at "ev")
  | ((with_reducible apply eg_sum); walk_at "ev")
  | ((with_reducible apply eg_all); walk_at "ev")
  | ((with_reducible apply eg_max2); walk_at "ev"; walk_at "ev")
  | ((with_reducible apply eg_get1); walk_at "ev"; walk_at "ev")
  | ((with_reducible apply eg_din); walk_at "ev"; walk_at "ev")
  | ((with_reducible apply eg_dnin); walk_at "ev"; walk_at "ev")
  | ((with_reducible apply eg_lenT); walk_at "ev")
  | ((with_reducible apply eg_not); walk_at "ev")
  | ((with_reducible apply eg_and'); walk_at "ev"; walk_at "ev")
  | ((with_reducible apply eg_or'); walk_at "ev"; walk_at "ev")
  | ((with_reducible apply et_not); walk_at "ev")
  | ((with_reducible apply et_and'); walk_at "ev"; walk_at "ev")
  | ((with_reducible apply et_or'); walk_at "ev"; walk_at "ev")
  | ((with_reducible apply et_test); walk_at "ev")
  | ((with_reducible apply et_B); walk_at "ev")
  | with_reducible exact et_yes
  | ((with_reducible apply ekp_tup); walk_at "ev"; walk_at "ev")
  | ((with_reducible apply ekp_of); walk_at "ev")
  | ((with_reducible apply edt_own); rfl)
  | ((with_reducible apply EG.edt); walk_at "ev")
  | ((with_reducible apply edk_own); rfl)
  | ((with_reducible apply EG.edk); walk_at "ev")
  | ((with_reducible apply ex_own); rfl)
  | ((with_reducible apply EX.el); (with_reducible apply ex_own); rfl)
  | ((with_reducible apply EG.el); walk_at "ev")
  | ((with_reducible apply EG.scr); walk_at "ev")
  | ((with_reducible apply EG.ef); walk_at "ev")
  | ((with_reducible apply EG.ex); walk_at "ev")
  | ((with_reducible apply EX.el); (with_reducible apply EN.ex); walk_at "ev")
  | ((with_reducible apply EN.ex); walk_at "ev")
  | ((with_reducible apply eb_see); rfl)
  | ((with_reducible apply eb_own); rfl)
  | ((with_reducible apply eb_of); walk_at "ev")
  | with_reducible exact ea_nil
  | ((with_reducible apply ea_is); walk_at "ev"; walk_at "ev")
  | ((with_reducible apply ea_see); walk_at "ev"; walk_at "ev")
  | with_reducible exact eas_nil
  | ((with_reducible apply eas_cons); walk_at "ev"; walk_at "ev")
  | ((with_reducible apply en_lst); walk_at "ev"; exact Nat.le_of_ble_eq_true rfl)
  | ((with_reducible apply en_list); walk_at "ev")
  | with_reducible exact en_dK
  | with_reducible exact en_dT
  | ((with_reducible apply eg_size); walk_at "ev"; exact Txt.cl (by assumption); exact Txt.nS (by assumption))
  | ((with_reducible apply edt_costs); walk_at "ev"; exact Txt.cl (by assumption); exact Txt.nC (by assumption)))
local macro_rules | `(tactic| walk_at "side") => `(tactic| first
  | exact ⟨by decide, by decide⟩
  | exact .inr ⟨by decide, by decide⟩
  | exact .inl ⟨by decide, by decide⟩
  | decide
  | omega
  | (show (0 : Int) < _; omega))
local macro_rules | `(tactic| walk_at "nz") => `(tactic| (try dsimp only [entS] at *))
section
variable {P : Program} {w : World} {K : PySem.W.Frag} {mg : Str → Option Value} {base : Heap}
/-! ### the book's defs -/

abbrev s_B_init : Stmt := inClass (top 11) 0
abbrev N_B_init : List Str := ["self", "many"]
abbrev P_B_init : List Str := ["self", "many"]
theorem sc_B_init : FnScope N_B_init P_B_init (defScope s_B_init) := ⟨rfl, rfl, rfl, by decide +kernel, rfl, by decide +kernel, by decide +kernel⟩

theorem ok_B_init {f : Addr} {fd : FuncData} (F : FunX K "__init__" "Book.__init__" s_B_init f fd) (T : Txt K mg) : FnOk P w K mg base (L2.CX P w) 1 f fd P_B_init (spInit K (CB K)) := by
  obtain ⟨oc, od, kV, doc, pm, an, cdv, ct, osl, rfl, lk, hcd⟩ := F.ex
  refine fn_of lk hcd sc_B_init (fun vs H Q E ⟨p, dx, n, h, _⟩ => by rw [h]; rfl) fun A outer s H vs Q E hr hsp => ⟨_, (pss_cons (ps_if (pt_not (pt_chain op_le op_le pe_int (pv 1) (pe_globE rfl T.g_MOST_TELLERS)))
  (pss_one (ps_raise rfl (takes_of rfl rfl rfl rfl) (T.x_NoBook.mkK rfl rfl rfl)))
  pss_nil)
  (pss_cons (qs_fld (K := K) (pv 0) (pv 1) rfl rfl)
  (pss_one (qs_fld (K := K) (pv 0) pe_dnewT rfl rfl)))), ?_⟩
  obtain ⟨p, dx, n, rfl, hp, k1, k2⟩ := hsp
  have et : Evl.EvT (tNot (tTest (tChain (rI0 fun i j => V.bl (decide (i ≤ j))) (rI0 fun i j => V.bl (decide (i ≤ j))) (tC (V.int 1)) (tVar 1) (tC (V.int 12))))) (L2.start N_B_init [.ref p, .int n]) H (!(decide (1 ≤ n) && decide (n ≤ 12))) := by
    refine Evl.et_not (Evl.et_test fun H1 e1 Q k => ⟨_, rfl, 1, n, rfl, rfl, decide (1 ≤ n), rfl, ?_⟩)
    by_cases c : 1 ≤ n
    · rw [if_pos (by simpa using c)]
      refine ⟨n, 12, rfl, rfl, ?_⟩
      have := k H1 (Ex.refl _)
      simpa [c] using this
    · rw [if_neg (by simpa using c)]
      have := k H1 (Ex.refl _)
      simpa [c] using this
  refine q_when et (fun e H1 e1 => ?_) (fun e H1 e1 => ?_)
  · exact k2 (by simp at e; omega) H1 e1
  have hn : 1 ≤ n ∧ n ≤ 12 := by simp at e; omega
  have hp1 := e1 _ _ hp
  refine ⟨_, rfl, _, rfl, p, _, dx, [], rfl, hp1, T.cl, T.nS, (by show 0 < 1000; decide), ?_⟩
  intro d hd
  have npd : p ≠ d := ne_of_none (H := upd H1 p (.ins (CB K) dx (putF "size" (.int n) []))) upd_same hd
  have hd1 : H1 d = none := by rw [upd_ne npd.symm] at hd; exact hd
  refine ⟨_, rfl, p, _, dx, _, rfl, (by rw [upd_ne npd, upd_same]), T.cl, T.nC, (by show 1 < 1000; decide), ?_⟩
  refine k1 hn d _ (fresh_back e1 hd1) ⟨upd_same, by rw [upd_ne npd.symm, upd_same]; rfl⟩ fun b o nb hb => ?_
  have hb1 := e1 _ _ hb
  rw [upd_ne nb, upd_ne (ne_of_none hb1 hd1), upd_ne nb]; exact hb1
/-- how many -/
abbrev spMany (K : PySem.W.Frag) : Sp := Pm (fun b : Bk => [.see (aBk (CB K)) b]) (fun b => .ret aI b.1) fun _ => True
abbrev s_B_many : Stmt := inClass (top 11) 1
abbrev N_B_many : List Str := ["self"]
abbrev P_B_many : List Str := ["self"]
theorem sc_B_many : FnScope N_B_many P_B_many (defScope s_B_many) := ⟨rfl, rfl, rfl, by decide +kernel, rfl, by decide +kernel, by decide +kernel⟩

theorem ok_B_many {f : Addr} {fd : FuncData} (F : FunX K "many" "Book.many" s_B_many f fd) (T : Txt K mg) : FnOk P w K mg base (L2.CX P w) 1 f fd P_B_many (spMany K) := by
  refine okP F sc_B_many (fun _ => rfl) fun cdv A outer s H Q E b A0 hr hp hS => ?_
  refine ⟨_, (pss_one (ps_ret (qe_fld (K := K) (pv 0) rfl rfl))), ?_⟩
  exact t_ret (by walk_at "ev") hS
/-- refused or not -/
def askOut (o : Option Addr) (r : Out) : Out := match o with
  | none => r
  | some B => .exc B
abbrev spAsk (K : PySem.W.Frag) : Sp := Pm (fun a : Bk × Int × Int => [.see (aBk (CB K)) a.1, .is aI a.2.1, .is aI a.2.2]) (fun a => askOut (askX K a.1.1 a.2.1 a.2.2) (.ret aN ())) fun _ => True
abbrev s_B_ask : Stmt := inClass (top 11) 2
abbrev N_B_ask : List Str := ["self", "one", "other"]
abbrev P_B_ask : List Str := ["self", "one", "other"]
theorem sc_B_ask : FnScope N_B_ask P_B_ask (defScope s_B_ask) := ⟨rfl, rfl, rfl, by decide +kernel, rfl, by decide +kernel, by decide +kernel⟩

theorem ok_B_ask {f : Addr} {fd : FuncData} (F : FunX K "ask" "Book.ask" s_B_ask f fd) (T : Txt K mg) : FnOk P w K mg base (L2.CX P w) 1 f fd P_B_ask (spAsk K) := by
  refine okPX F sc_B_ask (fun _ => rfl) fun cdv A outer s H Q E ⟨b, i, j⟩ A0 hr hp hS => ?_
  refine ⟨_, (pss_cons (ps_if (PW.pt (pw_or (pt_not (pt_chain op_le op_lt pe_int (pv 1) (qe_fld (K := K) (pv 0) rfl rfl))) (pw_or1 (pt_not (pt_chain op_le op_lt pe_int (pv 2) (qe_fld (K := K) (pv 0) rfl rfl))))))
  (pss_one (ps_raise rfl (takes_of rfl rfl rfl rfl) (T.x_NoTeller.mkK rfl rfl rfl)))
  pss_nil)
  (pss_cons (ps_if (pt_cmpR op_eq (pv 1) (pv 2) (nomark _))
  (pss_one (ps_raise rfl (takes_of rfl rfl rfl rfl) (T.x_Alone.mkK rfl rfl rfl)))
  pss_nil)
  (pss_one (ps_if (pt_cmpR op_eq (pv 2) pe_int (nomark _))
  (pss_one (ps_raise rfl (takes_of rfl rfl rfl rfl) (T.x_First.mkK rfl rfl rfl)))
  pss_nil)))), ?_⟩
  refine t_if (b := !(decide (0 ≤ i) && decide (i < b.1)) || !(decide (0 ≤ j) && decide (j < b.1))) (by walk_at "ev") (fun e => ?_) (fun e => t_go ?_)
  · refine t_raise (hS.exc ?_)
    have : ¬ ((0 ≤ i ∧ i < b.1) ∧ (0 ≤ j ∧ j < b.1)) := by simp at e; omega
    show askOut (askX K b.1 i j) _ = _
    unfold askX
    rw [if_pos this]; rfl
  have h1 : (0 ≤ i ∧ i < b.1) ∧ (0 ≤ j ∧ j < b.1) := by simp at e; omega
  refine t_if (b := decide (i = j)) (by walk_at "ev") (fun e => ?_) (fun e => t_go ?_)
  · refine t_raise (hS.exc ?_)
    show askOut (askX K b.1 i j) _ = _
    unfold askX
    rw [if_neg (fun q => q h1), if_pos (of_decide_eq_true e)]; rfl
  refine t_one (t_if (b := decide (j = 0)) (by walk_at "ev") (fun e2 => ?_) (fun e2 => t_go ?_))
  · refine t_raise (hS.exc ?_)
    show askOut (askX K b.1 i j) _ = _
    unfold askX
    rw [if_neg (fun q => q h1), if_neg (of_decide_eq_false e), if_pos (of_decide_eq_true e2)]; rfl
  refine t_fall (hS.ret ?_) rfl
  show askOut (askX K b.1 i j) _ = _
  unfold askX
  rw [if_neg (fun q => q h1), if_neg (of_decide_eq_false e), if_neg (of_decide_eq_false e2)]; rfl
abbrev spCost (K : PySem.W.Frag) : Sp := Pm (fun a : Bk × Int × Int => [.see (aBk (CB K)) a.1, .is aI a.2.1, .is aI a.2.2]) (fun a => askOut (askX K a.1.1 a.2.1 a.2.2) (.ret aO (getP a.1.2 a.2))) fun _ => True
abbrev s_B_cost : Stmt := inClass (top 11) 5
abbrev N_B_cost : List Str := ["self", "one", "other"]
abbrev P_B_cost : List Str := ["self", "one", "other"]
theorem sc_B_cost : FnScope N_B_cost P_B_cost (defScope s_B_cost) := ⟨rfl, rfl, rfl, by decide +kernel, rfl, by decide +kernel, by decide +kernel⟩

theorem ok_B_cost {f : Addr} {fd : FuncData} (F : FunX K "cost" "Book.cost" s_B_cost f fd) (T : Txt K mg) (c_B_ask : Met P w K mg base 1 (CB K) "ask" (spAsk K)) : FnOk P w K mg base (L2.CX P w) 2 f fd P_B_cost (spCost K) := by
  refine okPX F sc_B_cost (fun _ => rfl) fun cdv A outer s H Q E ⟨b, i, j⟩ A0 hr hp hS => ?_
  have hu := hu_of hr
  refine ⟨_, (pss_cons (ps_expr (pe_mX c_B_ask (passes_call (takes_of rfl rfl rfl rfl) fun _ _ _ _ h => h) hr (by first | decide | omega) (pv 0) (pa_cons (pv 1) (pa_cons (pv 2) pa_nil))))
  (pss_one (ps_ret (qe_dget1 (qe_fld (K := K) (pv 0) rfl rfl) (pe_tup (pa_cons (pv 1) (pa_cons (pv 2) pa_nil))) ⟨rfl, rfl, rfl, rfl⟩ (by exact hu))))), ?_⟩
  walk_at "nz"
  cases e : askX K b.1 i j with
  | none =>
    refine t_drop (eg_meth (b, i, j) (by walk_at "ev") (by walk_at "ev") rfl trivial (by show askOut (askX K b.1 i j) _ = _; rw [e]; rfl)) ?_
    replace hS := hS.ret (τ := aO) (x := getP b.2 (i, j)) (by show askOut (askX K b.1 i j) _ = _; rw [e]; rfl)
    exact t_ret (by walk_at "ev") hS
  | some B =>
    exact t_dropX (xg_meth (b, i, j) (by walk_at "ev") (by walk_at "ev") rfl trivial (by show askOut (askX K b.1 i j) _ = _; rw [e]; rfl)) (hS.exc (by show askOut (askX K b.1 i j) _ = _; rw [e]; rfl))
abbrev spHear (K : PySem.W.Frag) : Sp := Pm (fun b : Bk => [.see (aBk (CB K)) b]) (fun b => .new (oL aRow) (rowsOf b.2)) fun b => (b.2.map (·.1)).Nodup ∧ b.2.length ≤ 1000
abbrev s_B_hearings : Stmt := inClass (top 11) 6
abbrev N_B_hearings : List Str := ["self", "pair"]
abbrev P_B_hearings : List Str := ["self"]
theorem sc_B_hearings : FnScope N_B_hearings P_B_hearings (defScope s_B_hearings) := ⟨rfl, rfl, rfl, by decide +kernel, rfl, by decide +kernel, by decide +kernel⟩

theorem ok_B_hearings {f : Addr} {fd : FuncData} (F : FunX K "hearings" "Book.hearings" s_B_hearings f fd) (T : Txt K mg) : FnOk P w K mg base (L2.CX P w) 1 f fd P_B_hearings (spHear K) := by
  refine okP F sc_B_hearings (fun _ => rfl) fun cdv A outer s H Q E b A0 hr hp hS => ?_
  have hu := hu_of hr
  refine ⟨_, (pss_one (ps_ret (qe_lc (x := "pair") (j := 1) (tt := tYes) rfl sc_B_hearings.nd (qi_list (K := K) rfl (pe_callB (qb_sortedPO (K := K) rfl) (by rfl) T.b_sorted (by decide +kernel) (pa_cons (pe_callTy (qb_listT rfl) (by rfl) T.b_list (by decide +kernel) (pa_cons (qe_fld (K := K) (pv 0) rfl rfl) pa_nil)) pa_nil))) (blkOk_by (N := N_B_hearings) (sc := defScope s_B_hearings) (by decide +kernel)) (fun _ _ _ _ _ => pg_name (i := 1) sc_B_hearings.nd rfl (Or.inl rfl)) (fun _ _ _ _ _ => by exact pts_nil) (fun _ _ _ _ _ => by exact (pe_tup (pa_cons (pe_ix (qx_tup (K := K) rfl) (pv 1) pe_int (fun _ _ => rfl)) (pa_cons (pe_ix (qx_tup (K := K) rfl) (pv 1) pe_int (fun _ _ => rfl)) (pa_cons (qe_dget (qe_fld (K := K) (pv 0) rfl rfl) (pv 1) (fun _ _ => rfl) (by exact hu)) pa_nil)))))))), ?_⟩
  exact t_retN (en_rows (kvs := b.2) (by walk_at "ev") (by walk_at "ev") (Nat.le_of_ble_eq_true rfl) hp.1 (by have := hp.2; omega)) hS
abbrev s_B_let : Stmt := inClass (top 11) 3
abbrev N_B_let : List Str := ["self", "one", "other", "cost"]
abbrev P_B_let : List Str := ["self", "one", "other", "cost"]
theorem sc_B_let : FnScope N_B_let P_B_let (defScope s_B_let) := ⟨rfl, rfl, rfl, by decide +kernel, rfl, by decide +kernel, by decide +kernel⟩

theorem ok_B_let {f : Addr} {fd : FuncData} (F : FunX K "let" "Book.let" s_B_let f fd) (T : Txt K mg) (c_B_ask : Met P w K mg base 1 (CB K) "ask" (spAsk K)) : FnOk P w K mg base (L2.CX P w) 2 f fd P_B_let (spLet K (CB K)) := by
  obtain ⟨oc, od, kV, doc, pm, an, cdv, ct, osl, rfl, lk, hcd⟩ := F.ex
  refine fn_of lk hcd sc_B_let (fun vs H Q E ⟨p, d, dx, b, i, j, k, h, _⟩ => by rw [h]; rfl) fun A outer s H vs Q E hr hsp => ?_
  have hu := hu_of hr
  refine ⟨_, (pss_cons (ps_expr (pe_mX c_B_ask (passes_call (takes_of rfl rfl rfl rfl) fun _ _ _ _ h => h) hr (by first | decide | omega) (pv 0) (pa_cons (pv 1) (pa_cons (pv 2) pa_nil))))
  (pss_cons (qs_dput (qe_fld (K := K) (pv 0) rfl rfl) (pe_tup (pa_cons (pv 1) (pa_cons (pv 2) pa_nil))) (pv 3) rfl (by exact hu))
  (pss_one (ps_ret (pe_callB call_len_dT (by rfl) T.b_len (by decide +kernel) (pa_cons (qe_fld (K := K) (pv 0) rfl rfl) pa_nil)))))), ?_⟩
  obtain ⟨p, d, dx, b, i, j, k, rfl, B, hl, hsp⟩ := hsp
  -- ask
  refine ⟨_, rfl, p, dx, _, rfl, B.ob, flds_no _ _ (by decide +kernel) (by decide +kernel), _, rfl, _, rfl, ?_⟩
  have eB : bkH (CB K) p d dx b = bkH (CB K) p d dx b := rfl
  refine ⟨(b, i, j), none0, trivial, ex_none0, ⟨⟨_, bkH (CB K) p d dx b, rfl, bkH_ex B, p, d, dx, rfl, bkH_at B.ne⟩, ⟨_, rfl, rfl⟩, ⟨_, rfl, rfl⟩, trivial⟩, ?_⟩
  cases e : askX K b.1 i j with
  | some X =>
    rw [e] at hsp
    show Out.Sat _ _ _ (askOut (askX K b.1 i j) _)
    rw [e]
    exact fun H' x => hsp H' x.fr
  | none =>
    rw [e] at hsp
    show Out.Sat _ _ _ (askOut (askX K b.1 i j) _)
    rw [e]
    intro v H1 x
    have e1 : Ex H H1 := x.fr
    have B1 := B.up e1
    refine ⟨_, rfl, _, rfl, p, _, dx, _, _, rfl, B1.ob, T.cl, T.nC, flds_costs _ _, _, rfl, _, rfl, (by show 2 ≤ sizeLine; decide), fun t ht => ?_⟩
    have e2 : Ex H1 (upd H1 t (.tup [.int i, .int j])) := Ex.new ht
    refine ⟨d, _, rfl, DPut.t (k := keyP (i, j)) (e2 _ _ B1.dc) upd_same (small1000 (by rw [bk_len]; exact hl)), ?_⟩
    rw [putK_bk]
    have npd := B1.ne
    refine ⟨_, rfl, p, _, dx, _, _, rfl, (by rw [upd_ne npd]; exact e2 _ _ B1.ob), T.cl, T.nC, flds_costs _ _, d, _, rfl, upd_same, ?_⟩
    rw [bk_len]
    refine hsp _ (fun a o na ha => ?_) upd_same
    rw [upd_ne na]
    exact e2 _ _ (e1 _ _ ha)
end
end
section
local macro_rules | `(tactic| walk_at "ev") => `(tactic| first
  | ((with_reducible apply eg_var); rfl)
  | with_reducible exact eg_int
  | with_reducible exact eg_bl
  | with_reducible exact eg_str
  | with_reducible exact eg_non
  | ((with_reducible apply eg_Ii); walk_at "ev"; walk_at "ev")
  | ((with_reducible apply eg_Ib); walk_at "ev"; walk_at "ev")
  | ((with_reducible apply eg_Ic); walk_at "ev"; walk_at "ev"; walk_at "side")
  | ((with_reducible apply eg_un); walk_at "ev")
  | ((with_reducible apply eg_chain); walk_at "ev"; walk_at "ev"; walk_at "ev")
  | ((with_reducible apply eg_eqI); walk_at "ev"; walk_at "ev")
  | ((with_reducible apply eg_neI); walk_at "ev"; walk_at "ev")
  | ((with_reducible apply eg_eqS); walk_at "ev"; walk_at "ev")
  | ((with_reducible apply eg_neS); walk_at "ev"; walk_at "ev")
  | ((with_reducible apply eg_eqO); walk_at "ev"; walk_at "ev")
  | ((with_reducible apply eg_neO); walk_at "ev"; walk_at "ev")
  | ((with_reducible apply eg_isO); walk_at "ev")
  | ((with_reducible apply eg_notO); walk_at "ev")
  | ((with_reducible apply eg_isT objT3); walk_at "ev")
  | ((with_reducible apply eg_isT objL); walk_at "ev")
  | ((with_reducible apply eg_p0); walk_at "ev")
  | ((with_reducible apply eg_p1); walk_at "ev")
  | ((with_reducible apply eg_t0); walk_at "ev")
  | ((with_reducible apply eg_t1); walk_at "ev")
  | ((with_reducible apply eg_t2); walk_at "ev")
  | ((with_reducible apply eg_len (τ := aRow)); walk_at "ev")
  | ((with_reducible apply eg_len); walk_at "ev")
  | ((with_reducible apply eg_tup2); walk_at "ev"; walk_at "ev")
  | ((with_reducible apply eg_tup3); walk_at "ev"; walk_at "ev"; walk_at "ev")
  | ((with_reducible apply eg_in); walk_at "ev"; walk_at "ev")
  | ((with_reducible apply eg_nin); walk_at "ev"; walk_at "ev")
  | ((with_reducible apply eg_sum); walk_at "ev")
  | ((with_reducible apply eg_all); walk_at "ev")
  | ((with_reducible apply eg_max2); walk_at "ev"; walk_at "ev")
  | ((with_reducible apply eg_get1); walk_at "ev"; walk_at "ev")
  | ((with_reducible apply eg_din); walk_at "ev"; walk_at "ev")
  | ((with_reducible apply eg_dnin); walk_at "ev"; walk_at "ev")
  | ((with_reducible apply eg_lenT); walk_at "ev")
  | ((with_reducible apply eg_not); walk_at "ev")
  | ((with_reducible apply eg_and'); walk_at "ev"; walk_at "ev")
  | ((with_reducible apply eg_or'); walk_at "ev"; walk_at "ev")
  | ((with_reducible apply et_not); walk_at "ev")
  | ((with_reducible apply et_and'); walk_at "ev"; walk_at "ev")
  | ((with_reducible apply et_or'); walk_at "ev"; walk_at "ev")
  | ((with_reducible apply et_test); walk_at "ev")
  | ((with_reducible apply et_B); walk_at "ev")
  | with_reducible exact et_yes
  | ((with_reducible apply ekp_tup); walk_at "ev"; walk_at "ev")
  | ((with_reducible apply ekp_of); walk_at "ev")
  | ((with_reducible apply edt_own); rfl)
  | ((with_reducible apply EG.edt); walk_at "ev")
  | ((with_reducible apply edk_own); rfl)
  | ((with_reducible apply EG.edk); walk_at "ev")
  | ((with_reducible apply ex_own); rfl)
  | ((with_reducible apply EX.el); (with_reducible apply ex_own); rfl)
  | ((with_reducible apply EG.el); walk_at "ev")
  | ((with_reducible apply EG.scr); walk_at "ev")
  | ((with_reducible apply EG.ef); walk_at "ev")
  | ((with_reducible apply EG.ex); walk_at "ev")
  | ((with_reducible apply EX.el); (with_reducible apply EN.ex); walk_at "ev")
  | ((with_reducible apply EN.ex); walk_at "ev")
  | ((with_reducible apply eb_see); rfl)
  | ((with_reducible apply eb_own); rfl)
  | ((with_reducible apply eb_of); walk_at "ev")
  | with_reducible exact ea_nil
  | ((with_reducible apply ea_is); walk_at "ev"; walk_at "ev")
  | ((with_reducible apply ea_see); walk_at "ev"; walk_at "ev")
  | with_reducible exact eas_nil
  | ((with_reducible apply eas_cons); walk_at "ev"; walk_at "ev")
  | ((with_reducible apply en_lst); walk_at "ev"; exact Nat.le_of_ble_eq_true rfl)
  | ((with_reducible apply en_list); walk_at "ev")
  | with_reducible exact en_dK
  | with_reducible exact en_dT
  | ((with_reducible apply eg_size); walk_at "ev"; exact Txt.cl (by assumption); exact Txt.nS (by assumption))
  | ((with_reducible apply edt_costs); walk_at "ev"; exact Txt.cl (by assumption); exact Txt.nC (by assumption)))
local macro_rules | `(tactic| walk_at "side") => `(tactic| first
  | exact ⟨by decide, by decide⟩
  | exact .inr ⟨by decide, by decide⟩
  | exact .inl ⟨by decide, by decide⟩
  | decide
  | omega
  | (show (0 : Int) < _; omega))
local macro_rules | `(tactic| walk_at "nz") => `(tactic| (try dsimp only [entS] at *))
section
variable {P : Program} {w : World} {K : PySem.W.Frag} {mg : Str → Option Value} {base : Heap}
/-! ### families -/
theorem eg_many {c : Cw} {Γ : List Spec} {ta : TE} {n : Int} {kvs : Kvs} {E : XK} (h : EB (CB K) c Γ ta (n, kvs)) : EG c Γ (tMeth (CB K) "many" (spMany K) [] E ta tNil) aI n := eg_meth (n, kvs) h ea_nil rfl trivial rfl
theorem en_hear {c : Cw} {Γ : List Spec} {ta : TE} {n : Int} {kvs : Kvs} {E : XK} (h : EB (CB K) c Γ ta (n, kvs)) (G : GoodB n kvs) : EN c Γ (tMeth (CB K) "hearings" (spHear K) [] E ta tNil) (oL aRow) (rowsOf kvs) := en_meth (n, kvs) h ea_nil rfl ⟨G.nd, by have := G.small; show kvs.length ≤ 1000; omega⟩ rfl
local macro_rules | `(tactic| walk_at "ev") => `(tactic| first
  | ((with_reducible apply eg_many); walk_at "ev")
  | ((with_reducible apply en_hear); walk_at "ev"; assumption))
theorem eg_hear {c : Cw} {Γ : List Spec} {ta : TE} {n : Int} {kvs : Kvs} {rows : List Rw3} {E : XK} (h : EB (CB K) c Γ ta (n, kvs)) (G : GoodB n kvs) (e : rowsOf kvs = rows) : EG c Γ (tMeth (CB K) "hearings" (spHear K) [] E ta tNil) (aL aRow) rows := EG.eq (τ := aL aRow) (EN.fz (en_hear h G)) e
abbrev aFam : Ty Fml := aL aO
abbrev spComes : Sp := Pm (fun a : Fml × Int => [.is aFam a.1, .is aI a.2]) (fun a => .ret aB (decide (up a.1 a.1.length a.2 = 0))) fun a => Ups a.1 ∧ a.1.length ≤ 1000 ∧ 0 ≤ a.2 ∧ a.2 < a.1.length
abbrev s_comes_up : Stmt := top 13
abbrev N_comes_up : List Str := ["family", "teller", "step"]
abbrev P_comes_up : List Str := ["family", "teller"]
theorem sc_comes_up : FnScope N_comes_up P_comes_up (defScope s_comes_up) := ⟨rfl, rfl, rfl, by decide +kernel, rfl, by decide +kernel, by decide +kernel⟩

theorem ok_comes_up {f : Addr} {fd : FuncData} (F : FunX K "comes_up" "comes_up" s_comes_up f fd) (T : Txt K mg) : FnOk P w K mg base (L2.CX P w) 1 f fd P_comes_up spComes := by
  refine okP F sc_comes_up (fun _ => rfl) fun cdv A outer s H Q E ⟨fam, t⟩ A0 hr ⟨U, hl, h0, h1⟩ hS => ?_
  refine ⟨_, (pss_cons (ps_for PassesOwn.never rfl (pi_range1 rfl T.b_range (pa_cons (pe_callB (qb_len (K := K) rfl) (by rfl) T.b_len (by decide +kernel) (pa_cons (pv 0) pa_nil)) pa_nil)) (pg_name (i := 2) sc_comes_up.nd rfl (Or.inl rfl))
  (pss_cons (ps_if (pt_cmpR op_eq (pv 1) pe_int (nomark _))
  (pss_one (ps_ret pe_bl))
  pss_nil)
  (pss_one (ps_set (i := 1) sc_comes_up.nd rfl (Or.inl rfl) (pe_ix (qx_list (K := K) rfl) (pv 0) (pv 1) (fun _ _ => rfl))))))
  (pss_one (ps_ret (pe_cmpR op_eq (pv 1) pe_int (nomark _))))), ?_⟩
  walk_at "nz"
  refine t_forR (n := (fam.length : Int)) (fun i => [.is aFam fam, .is aI (up fam i t), .any]) (fun _ => True) (by walk_at "ev") (by omega) ⟨.inr rfl, .inr rfl, .inl rfl, trivial⟩ trivial (fun i hi _ => ?_) (fun _ => ?_)
  · have rg := U.rng h0 h1 i
    refine t_if (b := decide (up fam i t = 0)) (by walk_at "ev") (fun e => ?_) (fun e => t_go ?_)
    · have e' := up_late (k := fam.length) (by omega) (of_decide_eq_true e)
      rw [decide_eq_true e'] at hS
      exact t_ret eg_bl hS
    have n0 : up fam i t ≠ 0 := of_decide_eq_false e
    have q := U.par (t := up fam i t) (by omega) rg.2
    have e2 : up fam (i + 1) t = HW.par fam (up fam i t) := up_add fam i 1 t
    refine t_one (t_asg (EG.int (eg_ixL (by walk_at "ev") (by walk_at "ev") (at_of rg.1 q.1))) ?_)
    refine t_end ⟨.inr rfl, .inr (by rw [e2]), .inl rfl, trivial⟩ trivial
  · rw [Int.toNat_natCast]
    exact t_ret (by walk_at "ev") hS
/-- no None but at the first place -/
def NoNone (n : Int) (fam : Fml) : Prop := (fam.length : Int) = n → fam[0]? = some none → ∀ t : Int, 1 ≤ t → t < n → fam[t.toNat]? ≠ some none
abbrev spIsFam (K : PySem.W.Frag) : Sp := Pm (fun a : Bk × Fml => [.see (aBk (CB K)) a.1, .is aFam a.2]) (fun a => .ret aB (famB a.1.1 (rowsOf a.1.2) a.2)) fun a => GoodB a.1.1 a.1.2 ∧ a.2.length ≤ 1000 ∧ NoNone a.1.1 a.2
abbrev s_is_family : Stmt := top 14
abbrev N_is_family : List Str := ["book", "family", "costs", "row", "teller"]
abbrev P_is_family : List Str := ["book", "family"]
theorem sc_is_family : FnScope N_is_family P_is_family (defScope s_is_family) := ⟨rfl, rfl, rfl, by decide +kernel, rfl, by decide +kernel, by decide +kernel⟩

theorem ok_is_family {f : Addr} {fd : FuncData} (F : FunX K "is_family" "is_family" s_is_family f fd) (T : Txt K mg) (c_B_many : Met P w K mg base 1 (CB K) "many" (spMany K)) (c_B_hearings : Met P w K mg base 1 (CB K) "hearings" (spHear K)) (c_comes_up : Cal P w K mg base 1 "comes_up" spComes) :
    FnOk P w K mg base (L2.CX P w) 2 f fd P_is_family (spIsFam K) := by
  refine okP F sc_is_family (fun _ => rfl) fun cdv A outer s H Q E ⟨⟨n, kvs⟩, fam⟩ A0 hr ⟨G, hl, nn⟩ hS => ?_
  have hu := hu_of hr
  refine ⟨_, (pss_cons (ps_if (PW.pt (pw_or (pt_cmpR op_ne (pe_callB (qb_len (K := K) rfl) (by rfl) T.b_len (by decide +kernel) (pa_cons (pv 1) pa_nil)) (pe_mN0 c_B_many hr (by first | decide | omega) (pv 0)) (nomark _)) (pw_or1 (pt_cmpR op_notN (pe_ix (qx_list (K := K) rfl) (pv 1) pe_int (fun _ _ => rfl)) pe_non (nomark _)))))
  (pss_one (ps_ret pe_bl))
  pss_nil)
  (pss_cons (ps_set (i := 2) sc_is_family.nd rfl (Or.inl rfl) pe_dnewT)
  (pss_cons (ps_for PassesOwn.never rfl (qi_list (K := K) rfl (pe_mN0 c_B_hearings hr (by first | decide | omega) (pv 0))) (pg_name (i := 3) sc_is_family.nd rfl (Or.inl rfl))
  (pss_one (qs_dput (pv 2) (pe_tup (pa_cons (pe_ix (qx_tup (K := K) rfl) (pv 3) pe_int (fun _ _ => rfl)) (pa_cons (pe_ix (qx_tup (K := K) rfl) (pv 3) pe_int (fun _ _ => rfl)) pa_nil))) (pe_ix (qx_tup (K := K) rfl) (pv 3) pe_int (fun _ _ => rfl)) rfl (by exact hu))))
  (pss_cons (ps_for PassesOwn.never rfl (pi_range2 rfl T.b_range (pa_cons pe_int (pa_cons (pe_callB (qb_len (K := K) rfl) (by rfl) T.b_len (by decide +kernel) (pa_cons (pv 1) pa_nil)) pa_nil))) (pg_name (i := 4) sc_is_family.nd rfl (Or.inl rfl))
  (pss_one (ps_if (pt_cmp (qc_dnotin (pe_tup (pa_cons (pe_ix (qx_list (K := K) rfl) (pv 1) (pv 4) (fun _ _ => rfl)) (pa_cons (pv 4) pa_nil))) (pv 2) (by exact hu)))
  (pss_one (ps_ret pe_bl))
  pss_nil)))
  (pss_one (ps_ret (pe_callB (qb_all (K := K) rfl rfl) (by rfl) T.b_all (by decide +kernel) (pa_cons (qe_lc (x := "teller") (j := 4) (tt := tYes) rfl sc_is_family.nd (pi_range1 rfl T.b_range (pa_cons (pe_callB (qb_len (K := K) rfl) (by rfl) T.b_len (by decide +kernel) (pa_cons (pv 1) pa_nil)) pa_nil)) (blkOk_by (N := N_is_family) (sc := defScope s_is_family) (by decide +kernel)) (fun _ _ _ _ _ => pg_name (i := 4) sc_is_family.nd rfl (Or.inl rfl)) (fun _ _ _ _ _ => by exact pts_nil) (fun _ _ _ _ _ => by exact (pe_cN c_comes_up hr (by first | decide | omega) rfl (pa_cons (pv 1) (pa_cons (pv 4) pa_nil))))) pa_nil)))))))), ?_⟩
  walk_at "nz"
  have n1 := G.n1
  have n2 := G.n2
  have R := G.rin
  have u := uq_rowsOf G.nd
  have no : ∀ {c : Cw} {Γ : List Spec} {D : Ends}, ¬ IsFam n (rowsOf kvs) fam → (∀ v H', RetIs c aB (famB n (rowsOf kvs) fam) v H' → D.rt v H') → Tr c Γ (tRet (tC (.bl false))) D := fun {c Γ D} h q => by
    rw [famB_false.mpr h] at q
    exact t_ret eg_bl q
  refine t_if (b := (!decide ((fam.length : Int) = n)) || ((fam[0]?).getD none).isSome) (et_or (by walk_at "ev") fun e => ?_) (fun e => ?_) (fun e => t_go ?_)
  · have hl' : (fam.length : Int) = n := by simpa using e
    have h0 : fam[0]? = some ((fam[0]?).getD none) := by
      rw [List.getElem?_eq_getElem (by omega)]; rfl
    exact et_test (eg_notO (eg_ixL (by walk_at "ev") (by walk_at "ev") (at_of (by omega) h0)))
  · refine no (fun I => ?_) hS
    have r := I.root
    have l := I.len
    rw [r] at e
    simp [l] at e
  have e' : (fam.length : Int) = n ∧ (fam[0]?).getD none = none := by simpa using e
  have h0 : fam[0]? = some none := by
    rw [← e'.2, List.getElem?_eq_getElem (by omega)]; rfl
  refine t_new (by walk_at "ev") ?_
  refine t_forL (l := rowsOf kvs) (fun i => [.see (aBk (CB K)) (n, kvs), .is aFam fam, .own oDT (asKvs ((rowsOf kvs).take i)), .any, .any]) (fun _ => True) (EN.ef (by walk_at "ev")) ⟨.inr rfl, .inr rfl, .inr rfl, .inl rfl, .inl rfl, trivial⟩ trivial (fun i r hr' _ d hd => ?_) (fun _ => ?_)
  · refine t_one (t_dputT (k := (r.1, r.2.1)) rfl (by walk_at "ev") (by walk_at "ev") ?_ ?_)
    · rw [asKvs_len, List.length_take]
      have := G.small
      rw [← rowsOf_len] at this
      omega
    refine t_end ⟨.inr rfl, .inr rfl, .inr ?_, .inl rfl, .inl rfl, trivial⟩ trivial
    rw [asKvs_take u hr']
  rw [List.take_length]
  refine t_forR2 (a := 1) (n := (fam.length : Int)) (fun i => [.see (aBk (CB K)) (n, kvs), .is aFam fam, .own oDT (asKvs (rowsOf kvs)), .any, .any]) (fun i => ∀ t : Int, 1 ≤ t → t < 1 + (i : Int) → ∃ a, fam[t.toNat]? = some (some a) ∧ hasR (rowsOf kvs) a t) (by walk_at "ev") (by walk_at "ev") (by omega) ⟨.inr rfl, .inr rfl, .inr rfl, .inl rfl, .inl rfl, trivial⟩ (fun t a b => by omega) (fun i hi ih => ?_) (fun ih => ?_)
  · obtain ⟨a, ha⟩ : ∃ a, fam[(1 + (i : Int)).toNat]? = some (some a) := by
      have hlt : (1 + (i : Int)).toNat < fam.length := by omega
      cases q : fam[(1 + (i : Int)).toNat] with
      | some a => exact ⟨a, by rw [List.getElem?_eq_getElem hlt, q]⟩
      | none => exact absurd (by rw [List.getElem?_eq_getElem hlt, q]) (nn e'.1 h0 (1 + (i : Int)) (by omega) (by omega))
    refine t_one (t_if (b := !(getP (asKvs (rowsOf kvs)) (a, 1 + (i : Int))).isSome) (et_B (eg_dnin (ekp_tup (EG.int (eg_ixL (by walk_at "ev") (by walk_at "ev") (at_of (by omega) ha))) (by walk_at "ev")) (by walk_at "ev"))) (fun e => ?_) (fun e => t_go ?_))
    · refine no (fun I => ?_) hS
      obtain ⟨b, hb, hh⟩ := I.hear (1 + (i : Int)) (by omega) (by omega)
      rw [ha] at hb
      cases Option.some.inj (Option.some.inj hb)
      rw [(getP_has u).mpr hh] at e
      cases e
    refine t_end ⟨.inr rfl, .inr rfl, .inr rfl, .inl rfl, .inl rfl, trivial⟩ fun t a b => ?_
    by_cases q : t < 1 + (i : Int)
    · exact ih t a q
    · have : t = 1 + (i : Int) := by omega
      rw [this]
      refine ⟨_, ha, (getP_has u).mp ?_⟩
      simpa using e
  obtain ⟨U, hI⟩ := isFam_iff R e'.1 h0 fun t a b => ih t a (by omega)
  refine t_ret (x := (((List.range ((fam.length : Int)).toNat).filter fun _ => true).map fun i : Nat => decide (up fam fam.length (i : Int) = 0)).all id) (eg_all (EX.el (EN.ex (en_lcR (fun _ => true) (fun i => decide (up fam fam.length (i : Int) = 0)) (by walk_at "ev") (by omega) (fun i hi => et_yes) fun i hi _ => ?_)))) ?_
  · exact eg_call (fam, (i : Int)) (by walk_at "ev") ⟨U, hl, by omega, hi⟩ rfl
  have e : (((List.range ((fam.length : Int)).toNat).filter fun _ => true).map fun i : Nat => decide (up fam fam.length (i : Int) = 0)).all id = famB n (rowsOf kvs) fam := by
    rw [Bool.eq_iff_iff, famB_true, hI, List.all_eq_true]
    constructor
    · intro h t a b
      have := h (decide (up fam fam.length ((t.toNat : Nat) : Int) = 0)) (List.mem_map.mpr ⟨t.toNat, List.mem_filter.mpr ⟨List.mem_range.mpr (by omega), rfl⟩, rfl⟩)
      have z := of_decide_eq_true this
      rw [show ((t.toNat : Nat) : Int) = t by omega] at z
      exact z
    · intro h b hb
      obtain ⟨i, hi, rfl⟩ := List.mem_map.mp hb
      have := List.mem_range.mp (List.mem_filter.mp hi).1
      exact decide_eq_true (h (i : Int) (by omega) (by omega))
  rw [e]
  exact hS

theorem eg_is_family {c : Cw} {Γ : List Spec} {ta tb : TE} {n : Int} {kvs : Kvs} {fam : Fml} {E : XK} (h : EB (CB K) c Γ ta (n, kvs)) (h2 : EG c Γ tb aFam fam) (G : GoodB n kvs) (hl : fam.length ≤ 1000) (nn : NoNone n fam) :
    EG c Γ (tCall (spIsFam K) [] E (tCons ta (tCons tb tNil))) aB (famB n (rowsOf kvs) fam) := eg_call ((n, kvs), fam) (ea_see h (ea_is h2 ea_nil)) ⟨G, hl, nn⟩ rfl
theorem eg_cost {c : Cw} {Γ : List Spec} {ta tb tc : TE} {n i j : Int} {kvs : Kvs} {E : XK} (h : EB (CB K) c Γ ta (n, kvs)) (h1 : EG c Γ tb aI i) (h2 : EG c Γ tc aI j) (ok : askX K n i j = none) :
    EG c Γ (tMeth (CB K) "cost" (spCost K) [] E ta (tCons tb (tCons tc tNil))) aO (getP kvs (i, j)) := eg_meth ((n, kvs), i, j) h (ea_is h1 (ea_is h2 ea_nil)) rfl trivial (by show askOut (askX K n i j) _ = _; rw [ok]; rfl)
/-- worth, or no family -/
noncomputable def worthOut (K : PySem.W.Frag) (n : Int) (kvs : Kvs) (fam : Fml) : Out := match famB n (rowsOf kvs) fam with
  | true => .ret aI (HW.worth n (rowsOf kvs) fam)
  | false => .exc (He.ga K "NoFamily")
theorem worthOut_yes {n : Int} {kvs : Kvs} {fam : Fml} (h : IsFam n (rowsOf kvs) fam) : worthOut K n kvs fam = .ret aI (HW.worth n (rowsOf kvs) fam) := by
  unfold worthOut; rw [famB_true.mpr h]
theorem worthOut_no {n : Int} {kvs : Kvs} {fam : Fml} (h : ¬ IsFam n (rowsOf kvs) fam) : worthOut K n kvs fam = .exc (He.ga K "NoFamily") := by
  unfold worthOut; rw [famB_false.mpr h]
noncomputable abbrev spWorth (K : PySem.W.Frag) : Sp := Pm (fun a : Bk × Fml => [.see (aBk (CB K)) a.1, .is aFam a.2]) (fun a => worthOut K a.1.1 a.1.2 a.2) fun a => GoodB a.1.1 a.1.2 ∧ a.2.length ≤ 1000 ∧ NoNone a.1.1 a.2
abbrev s_worth : Stmt := top 15
abbrev N_worth : List Str := ["book", "family", "teller"]
abbrev P_worth : List Str := ["book", "family"]
theorem sc_worth : FnScope N_worth P_worth (defScope s_worth) := ⟨rfl, rfl, rfl, by decide +kernel, rfl, by decide +kernel, by decide +kernel⟩

theorem ok_worth {f : Addr} {fd : FuncData} (F : FunX K "worth" "worth" s_worth f fd) (T : Txt K mg) (c_is_family : Cal P w K mg base 2 "is_family" (spIsFam K)) (c_B_cost : Met P w K mg base 2 (CB K) "cost" (spCost K)) :
    FnOk P w K mg base (L2.CX P w) 3 f fd P_worth (spWorth K) := by
  refine okPX F sc_worth (fun _ => rfl) fun cdv A outer s H Q E ⟨⟨n, kvs⟩, fam⟩ A0 hr ⟨G, hl, nn⟩ hS => ?_
  have hu := hu_of hr
  refine ⟨_, (pss_cons (ps_if (pt_not (pt_val (pe_cN c_is_family hr (by first | decide | omega) rfl (pa_cons (pv 0) (pa_cons (pv 1) pa_nil)))))
  (pss_one (ps_raise rfl (takes_of rfl rfl rfl rfl) (T.x_NoFamily.mkK rfl rfl rfl)))
  pss_nil)
  (pss_one (ps_ret (pe_callB (qb_sum (K := K) rfl rfl) (by rfl) T.b_sum (by decide +kernel) (pa_cons (qe_lc (x := "teller") (j := 2) (tt := tYes) rfl sc_worth.nd (pi_range2 rfl T.b_range (pa_cons pe_int (pa_cons (pe_callB (qb_len (K := K) rfl) (by rfl) T.b_len (by decide +kernel) (pa_cons (pv 1) pa_nil)) pa_nil))) (blkOk_by (N := N_worth) (sc := defScope s_worth) (by decide +kernel)) (fun _ _ _ _ _ => pg_name (i := 2) sc_worth.nd rfl (Or.inl rfl)) (fun _ _ _ _ _ => by exact pts_nil) (fun _ _ _ _ _ => by exact (pe_mN c_B_cost hr (by first | decide | omega) (pv 0) (pa_cons (pe_ix (qx_list (K := K) rfl) (pv 1) (pv 2) (fun _ _ => rfl)) (pa_cons (pv 2) pa_nil))))) pa_nil))))), ?_⟩
  walk_at "nz"
  have n1 := G.n1
  have n2 := G.n2
  refine t_if (b := !(famB n (rowsOf kvs) fam)) (et_not (et_test (eg_is_family (by walk_at "ev") (by walk_at "ev") G hl nn))) (fun e => ?_) (fun e => t_go ?_)
  · exact t_raise (hS.exc (worthOut_no (famB_false.mp (by simpa using e))))
  have I : IsFam n (rowsOf kvs) fam := famB_true.mp (by simpa using e)
  rw [worthOut_yes I] at hS
  have ln := I.len
  refine t_ret (x := (((List.range ((fam.length : Int) - 1).toNat).filter fun _ => true).map fun i : Nat => costR (rowsOf kvs) (HW.par fam (1 + (i : Int))) (1 + (i : Int))).sum) (eg_sum (EX.el (EN.ex (en_lcR2 (fun _ => true) (fun i => costR (rowsOf kvs) (HW.par fam (1 + (i : Int))) (1 + (i : Int))) eg_int (by walk_at "ev") (by omega) (fun i hi => et_yes) fun i hi _ => ?_)))) ?_
  · have pg := I.par_get (t := 1 + (i : Int)) (by omega) (by omega)
    obtain ⟨c, hc⟩ := I.par_of (t := 1 + (i : Int)) (by omega) (by omega)
    have rr := G.rg _ (mem_rowsOf.mp hc)
    have gp : getP kvs (HW.par fam (1 + (i : Int)), 1 + (i : Int)) = some c := getP_of G.nd (mem_rowsOf.mp hc)
    rw [costR_of G.rin.uq hc]
    refine EG.int ?_
    rw [← gp]
    exact eg_cost (by walk_at "ev") (EG.int (eg_ixL (by walk_at "ev") (by walk_at "ev") (at_of (by omega) pg))) (by walk_at "ev") (askX_ok rr.1 rr.2.1 rr.2.2)
  have e2 : (((List.range ((fam.length : Int) - 1).toNat).filter fun _ => true).map fun i : Nat => costR (rowsOf kvs) (HW.par fam (1 + (i : Int))) (1 + (i : Int))).sum = HW.worth n (rowsOf kvs) fam := by
    unfold HW.worth tellers
    rw [tot_map, ← tot_sum, filter_yes]
    have : ((fam.length : Int) - 1).toNat = n.toNat - 1 := by omega
    rw [this]
    congr 1
    refine List.map_congr_left fun i _ => ?_
    rw [Int.add_comm]
  rw [e2]
  exact hS

end
end
section
local macro_rules | `(tactic| walk_at "ev") => `(tactic| first
  | ((with_reducible apply eg_var); rfl)
  | with_reducible exact eg_int
  | with_reducible exact eg_bl
  | with_reducible exact eg_str
  | with_reducible exact eg_non
  | ((with_reducible apply eg_Ii); walk_at "ev"; walk_at "ev")
  | ((with_reducible apply eg_Ib); walk_at "ev"; walk_at "ev")
  | ((with_reducible apply eg_Ic); walk_at "ev"; walk_at "ev"; walk_at "side")
  | ((with_reducible apply eg_un); walk_at "ev")
  | ((with_reducible apply eg_chain); walk_at "ev"; walk_at "ev"; walk_at "ev")
  | ((with_reducible apply eg_eqI); walk_at "ev"; walk_at "ev")
  | ((with_reducible apply eg_neI); walk_at "ev"; walk_at "ev")
  | ((with_reducible apply eg_eqS); walk_at "ev"; walk_at "ev")
  | ((with_reducible apply eg_neS); walk_at "ev"; walk_at "ev")
  | ((with_reducible apply eg_eqO); walk_at "ev"; walk_at "ev")
  | ((with_reducible apply eg_neO); walk_at "ev"; walk_at "ev")
  | ((with_reducible apply eg_isO); walk_at "ev")
  | ((with_reducible apply eg_notO); walk_at "ev")
  | ((with_reducible apply eg_isT objT3); walk_at "ev")
  | ((with_reducible apply eg_isT objL); walk_at "ev")
  | ((with_reducible apply eg_p0); walk_at "ev")
  | ((with_reducible apply eg_p1); walk_at "ev")
  | ((with_reducible apply eg_t0); walk_at "ev")
  | ((with_reducible apply eg_t1); walk_at "ev")
  | ((with_reducible apply eg_t2); walk_at "ev")
  | ((with_reducible apply eg_len (τ := aRow)); walk_at "ev")
  | ((with_reducible apply eg_len); walk_at "ev")
  | ((with_reducible apply eg_tup2); walk_at "ev"; walk_at "ev")
  | ((with_reducible apply eg_tup3); walk_at "ev"; walk_at "ev"; walk_at "ev")
  | ((with_reducible apply eg_in); walk_at "ev"; walk_at "ev")
  | ((with_reducible apply eg_nin); walk_at "ev"; walk_at "ev")
  | ((with_reducible apply eg_sum); walk_at "ev")
  | ((with_reducible apply eg_all); walk_at "ev")
  | ((with_reducible apply eg_max2); walk_at "ev"; walk_at "ev")
  | ((with_reducible apply eg_get1); walk_at "ev"; walk_at "ev")
  | ((with_reducible apply eg_din); walk_at "ev"; walk_at "ev")
  | ((with_reducible apply eg_dnin); walk_at "ev"; walk_at "ev")
  | ((with_reducible apply eg_lenT); walk_at "ev")
  | ((with_reducible apply eg_not); walk_at "ev")
  | ((with_reducible apply eg_and'); walk_at "ev"; walk_at "ev")
  | ((with_reducible apply eg_or'); walk_at "ev"; walk_at "ev")
  | ((with_reducible apply et_not); walk_at "ev")
  | ((with_reducible apply et_and'); walk_at "ev"; walk_at "ev")
  | ((with_reducible apply et_or'); walk_at "ev"; walk_at "ev")
  | ((with_reducible apply et_test); walk_at "ev")
  | ((with_reducible apply et_B); walk_at "ev")
  | with_reducible exact et_yes
  | ((with_reducible apply ekp_tup); walk_at "ev"; walk_at "ev")
  | ((with_reducible apply ekp_of); walk_at "ev")
  | ((with_reducible apply edt_own); rfl)
  | ((with_reducible apply EG.edt); walk_at "ev")
  | ((with_reducible apply edk_own); rfl)
  | ((with_reducible apply EG.edk); walk_at "ev")
  | ((with_reducible apply ex_own); rfl)
  | ((with_reducible apply EX.el); (with_reducible apply ex_own); rfl)
  | ((with_reducible apply EG.el); walk_at "ev")
  | ((with_reducible apply EG.scr); walk_at "ev")
  | ((with_reducible apply EG.ef); walk_at "ev")
  | ((with_reducible apply EG.ex); walk_at "ev")
  | ((with_reducible apply EX.el); (with_reducible apply EN.ex); walk_at "ev")
  | ((with_reducible apply EN.ex); walk_at "ev")
  | ((with_reducible apply eb_see); rfl)
  | ((with_reducible apply eb_own); rfl)
  | ((with_reducible apply eb_of); walk_at "ev")
  | with_reducible exact ea_nil
  | ((with_reducible apply ea_is); walk_at "ev"; walk_at "ev")
  | ((with_reducible apply ea_see); walk_at "ev"; walk_at "ev")
  | with_reducible exact eas_nil
  | ((with_reducible apply eas_cons); walk_at "ev"; walk_at "ev")
  | ((with_reducible apply en_lst); walk_at "ev"; exact Nat.le_of_ble_eq_true rfl)
  | ((with_reducible apply en_list); walk_at "ev")
  | with_reducible exact en_dK
  | with_reducible exact en_dT
  | ((with_reducible apply eg_size); walk_at "ev"; exact Txt.cl (by assumption); exact Txt.nS (by assumption))
  | ((with_reducible apply edt_costs); walk_at "ev"; exact Txt.cl (by assumption); exact Txt.nC (by assumption)))
local macro_rules | `(tactic| walk_at "side") => `(tactic| first
  | exact ⟨by decide, by decide⟩
  | exact .inr ⟨by decide, by decide⟩
  | exact .inl ⟨by decide, by decide⟩
  | decide
  | omega
  | (show (0 : Int) < _; omega))
local macro_rules | `(tactic| walk_at "nz") => `(tactic| (try dsimp only [entS] at *))
section
variable {P : Program} {w : World} {K : PySem.W.Frag} {mg : Str → Option Value} {base : Heap}
/-! ### judging: the small defs -/
abbrev aGrp : Ty (List Int) := aL aI
abbrev aGrps : Ty (List (List Int)) := aL aGrp
abbrev aRows : Ty (List Rw3) := aL aRow
/-- groups and rows as they are judged -/
structure Fit (n : Int) (gs : List (List Int)) (rows : List Rw3) : Prop where
  n2 : n ≤ 12
  part : Part n gs
  rin : RowsIn n rows
  few : rows.length ≤ 1000
abbrev spPlaces : Sp := Pm (fun a : Int × List (List Int) => [.is aGrps a.2]) (fun a => .new (oDK aI) (plD a.2 a.2.length)) fun a => a.1 ≤ 12 ∧ Part a.1 a.2
abbrev s_places_of : Stmt := top 17
abbrev N_places_of : List Str := ["groups", "found", "place", "teller"]
abbrev P_places_of : List Str := ["groups"]
theorem sc_places_of : FnScope N_places_of P_places_of (defScope s_places_of) := ⟨rfl, rfl, rfl, by decide +kernel, rfl, by decide +kernel, by decide +kernel⟩

theorem ok_places_of {f : Addr} {fd : FuncData} (F : FunX K "places_of" "places_of" s_places_of f fd) (T : Txt K mg) : FnOk P w K mg base (L2.CX P w) 1 f fd P_places_of spPlaces := by
  refine okP F sc_places_of (fun _ => rfl) fun cdv A outer s H Q E ⟨n, gs⟩ A0 hr ⟨n2, P0⟩ hS => ?_
  have hu := hu_of hr
  refine ⟨_, (pss_cons (ps_set (i := 1) sc_places_of.nd rfl (Or.inl rfl) pe_dnewK)
  (pss_cons (ps_for PassesOwn.never rfl (pi_range1 rfl T.b_range (pa_cons (pe_callB (qb_len (K := K) rfl) (by rfl) T.b_len (by decide +kernel) (pa_cons (pv 0) pa_nil)) pa_nil)) (pg_name (i := 2) sc_places_of.nd rfl (Or.inl rfl))
  (pss_one (ps_for PassesOwn.never rfl (qi_list (K := K) rfl (pe_ix (qx_list (K := K) rfl) (pv 0) (pv 2) (fun _ _ => rfl))) (pg_name (i := 3) sc_places_of.nd rfl (Or.inl rfl))
  (pss_one (qs_dput (pv 1) (pv 3) (pv 2) rfl (by exact hu))))))
  (pss_one (ps_ret (pv 1))))), ?_⟩
  walk_at "nz"
  have ln := Part.len P0
  refine t_new (κ := oDK aI) (x := []) en_dK ?_
  refine t_forR (n := (gs.length : Int)) (fun i => [.is aGrps gs, .own (oDK aI) (plD gs i), .any, .any]) (fun _ => True) (by walk_at "ev") (by omega) ⟨.inr rfl, .inr rfl, .inl rfl, .inl rfl, trivial⟩ trivial (fun i hi _ => ?_) (fun _ => ?_)
  · have hi' : i < gs.length := by omega
    refine t_one (t_forL (l := gp gs i) (fun j => [.is aGrps gs, .own (oDK aI) (plD gs i ++ ((gp gs i).take j).map fun t => (t, (i : Int))), .is aI (i : Int), .any]) (fun _ => True) (EG.ef (eg_ixL (by walk_at "ev") (by walk_at "ev") (at_of (by omega) (by rw [Int.toNat_natCast]; exact gp_lt hi')))) ⟨.inr rfl, .inr (by rw [List.take_zero, List.map_nil, List.append_nil]), .inr rfl, .inl rfl, trivial⟩ trivial (fun j t ht _ d hd => ?_) (fun _ => ?_))
    · refine t_one (t_dputK rfl (by walk_at "ev") (by walk_at "ev") ?_ ?_)
      · rw [List.length_append, List.length_map, List.length_take]
        have := plD_len P0 (m := i) (by omega)
        have := Part.glen P0 (gp_mem hi')
        omega
      refine t_end ⟨.inr rfl, .inr ?_, .inr rfl, .inl rfl, trivial⟩ trivial
      rw [plD_put P0 hi' ht]
    · refine t_end ⟨.inr rfl, .inr ?_, .inl rfl, .inl rfl, trivial⟩ trivial
      rw [List.take_length, plD_succ]
  · rw [Int.toNat_natCast]
    exact t_retO rfl (fun h => h) hS
abbrev aPl : Ty (List (Int × Int)) := aDK aI
abbrev spCheap : Sp := Pm (fun a : Int × List (List Int) × List Rw3 × Nat => [.is aRows a.2.2.1, .is aPl (plD a.2.1 a.2.1.length), .is aI (a.2.2.2 : Int)]) (fun a => .ret (aOp aRow) (cheap a.2.1 a.2.2.1 a.2.2.2)) fun a => Fit a.1 a.2.1 a.2.2.1
abbrev s_cheapest : Stmt := top 18
abbrev N_cheapest : List Str := ["rows", "places", "place", "best", "row"]
abbrev P_cheapest : List Str := ["rows", "places", "place"]
theorem sc_cheapest : FnScope N_cheapest P_cheapest (defScope s_cheapest) := ⟨rfl, rfl, rfl, by decide +kernel, rfl, by decide +kernel, by decide +kernel⟩

theorem ok_cheapest {f : Addr} {fd : FuncData} (F : FunX K "cheapest" "cheapest" s_cheapest f fd) (T : Txt K mg) : FnOk P w K mg base (L2.CX P w) 1 f fd P_cheapest spCheap := by
  refine okP F sc_cheapest (fun _ => rfl) fun cdv A outer s H Q E ⟨n, gs, rows, p⟩ A0 hr FT hS => ?_
  have hu := hu_of hr
  refine ⟨_, (pss_cons (ps_set (i := 3) sc_cheapest.nd rfl (Or.inl rfl) pe_non)
  (pss_cons (ps_for PassesOwn.never rfl (qi_list (K := K) rfl (pv 0)) (pg_name (i := 4) sc_cheapest.nd rfl (Or.inl rfl))
  (pss_one (ps_if (PW.pt (pw_and (pt_cmpR op_eq (qe_dget (pv 1) (pe_ix (qx_tup (K := K) rfl) (pv 4) pe_int (fun _ _ => rfl)) (fun _ _ => rfl) (by exact hu)) (pv 2) (nomark _)) (pw_and1 (pt_cmpR op_ne (qe_dget (pv 1) (pe_ix (qx_tup (K := K) rfl) (pv 4) pe_int (fun _ _ => rfl)) (fun _ _ => rfl) (by exact hu)) (pv 2) (nomark _)))))
  (pss_one (ps_if (PW.pt (pw_or (pt_cmpR op_isN (pv 3) pe_non (nomark _)) (pw_or1 (pt_cmpR op_lt (pe_ix (qx_tup (K := K) rfl) (pv 4) pe_int (fun _ _ => rfl)) (pe_ix (qx_tup (K := K) rfl) (pv 3) pe_int (fun _ _ => rfl)) (nomark _)))))
  (pss_one (ps_set (i := 3) sc_cheapest.nd rfl (Or.inl rfl) (pv 4)))
  pss_nil))
  pss_nil)))
  (pss_one (ps_ret (pv 3))))), ?_⟩
  walk_at "nz"
  refine t_asg (EG.ofNone (τ := aRow) eg_non) ?_
  refine t_forL (l := rows) (fun i => [.is aRows rows, .is aPl (plD gs gs.length), .is aI (p : Int), .is (aOp aRow) (cheap gs (rows.take i) p), .any]) (fun _ => True) (by walk_at "ev") ⟨.inr rfl, .inr rfl, .inr rfl, .inr rfl, .inl rfl, trivial⟩ trivial (fun i r hr' _ d hd => ?_) (fun _ => ?_)
  · have hm := List.mem_of_getElem? hr'
    have ra := FT.rin.a0 r hm
    have rb := FT.rin.b0 r hm
    have la := Part.lk FT.part ra
    have lb := Part.lk FT.part (t := r.2.1) (by omega)
    have ea : ∀ {Γ : List Spec} {c : Cw}, Γ[1]? = some (.is aPl (plD gs gs.length)) → Γ[4]? = some (.is aRow r) → EG c Γ (tDGet (tVar 1) (tOp (rIxT K) (tVar 4) (tC (.int 0)))) aI (pl gs r.1 : Int) := fun h1 h2 => eg_dgetK (EG.edk (eg_var h1)) (eg_t0 (eg_var h2)) la
    have eb : ∀ {Γ : List Spec} {c : Cw}, Γ[1]? = some (.is aPl (plD gs gs.length)) → Γ[4]? = some (.is aRow r) → EG c Γ (tDGet (tVar 1) (tOp (rIxT K) (tVar 4) (tC (.int 1)))) aI (pl gs r.2.1 : Int) := fun h1 h2 => eg_dgetK (EG.edk (eg_var h1)) (eg_t1 (eg_var h2)) lb
    refine t_one (t_if (et_and' (et_test (eg_eqI (eb rfl rfl) (by walk_at "ev"))) (et_test (eg_neI (ea rfl rfl) (by walk_at "ev")))) (fun e => ?_) (fun e => t_go ?_))
    · have c : pl gs r.2.1 = p ∧ pl gs r.1 ≠ p := by simp at e; omega
      have step := cheap_succ (gs := gs) p hr'
      unfold chS at step
      rw [if_pos c] at step
      cases hc : cheap gs (rows.take i) p with
      | none =>
        rw [hc] at step
        refine t_one (t_if (et_or (b := false) (et_test (eg_isT (τ := aRow) objT3 (by walk_at "ev"))) (fun h => by cases h)) (fun _ => ?_) (fun e => by cases e))
        refine t_one (t_asg (EG.ofSome (τ := aRow) (x := r) (by walk_at "ev")) ?_)
        exact t_end ⟨.inr rfl, .inr rfl, .inr rfl, .inr (by rw [step]), .inl rfl, trivial⟩ trivial
      | some q =>
        rw [hc] at step
        refine t_one (t_if (et_or (b := decide (r.2.2 < q.2.2)) (et_test (eg_isT (τ := aRow) objT3 (by walk_at "ev"))) (fun h => et_test (eg_Ib (by walk_at "ev") (eg_t2 (EG.unSome (by walk_at "ev")))))) (fun e => ?_) (fun e => t_go ?_))
        · have l : r.2.2 < q.2.2 := by simpa using e
          refine t_one (t_asg (EG.ofSome (τ := aRow) (x := r) (by walk_at "ev")) ?_)
          refine t_end ⟨.inr rfl, .inr rfl, .inr rfl, .inr ?_, .inl rfl, trivial⟩ trivial
          rw [step]; simp only [if_pos l]
        · have l : ¬ r.2.2 < q.2.2 := by simpa using e
          refine t_end ⟨.inr rfl, .inr rfl, .inr rfl, .inr ?_, .inl rfl, trivial⟩ trivial
          rw [step]; simp only [if_neg l]
    · have c : ¬ (pl gs r.2.1 = p ∧ pl gs r.1 ≠ p) := by simp at e; omega
      refine t_end ⟨.inr rfl, .inr rfl, .inr rfl, .inr ?_, .inl rfl, trivial⟩ trivial
      rw [cheap_succ (gs := gs) p hr']
      unfold chS
      rw [if_neg c]
  · rw [List.take_length]
    exact t_ret (by walk_at "ev") hS
abbrev spLessened : Sp := Pm (fun a : Int × List (List Int) × List Rw3 × (Nat → Rw3) => [.is aRows a.2.2.1, .is (aDK aRow) (pkD a.2.2.2 (a.2.1.length - 1)), .is aPl (plD a.2.1 a.2.1.length)]) (fun a => .new (oL aRow) (les a.2.1 a.2.2.2 a.2.2.1)) fun a => Fit a.1 a.2.1 a.2.2.1
abbrev s_lessened : Stmt := top 20
abbrev N_lessened : List Str := ["rows", "picks", "places", "found", "row", "place"]
abbrev P_lessened : List Str := ["rows", "picks", "places"]
theorem sc_lessened : FnScope N_lessened P_lessened (defScope s_lessened) := ⟨rfl, rfl, rfl, by decide +kernel, rfl, by decide +kernel, by decide +kernel⟩

theorem ok_lessened {f : Addr} {fd : FuncData} (F : FunX K "lessened" "lessened" s_lessened f fd) (T : Txt K mg) : FnOk P w K mg base (L2.CX P w) 1 f fd P_lessened spLessened := by
  refine okP F sc_lessened (fun _ => rfl) fun cdv A outer s H Q E ⟨n, gs, rows, pk⟩ A0 hr FT hS => ?_
  have hu := hu_of hr
  refine ⟨_, (pss_cons (ps_set (i := 3) sc_lessened.nd rfl (Or.inl rfl) (pe_lst pa_nil))
  (pss_cons (ps_for PassesOwn.never rfl (qi_list (K := K) rfl (pv 0)) (pg_name (i := 4) sc_lessened.nd rfl (Or.inl rfl))
  (pss_cons (ps_set (i := 5) sc_lessened.nd rfl (Or.inl rfl) (qe_dget (pv 2) (pe_ix (qx_tup (K := K) rfl) (pv 4) pe_int (fun _ _ => rfl)) (fun _ _ => rfl) (by exact hu)))
  (pss_one (ps_if (pt_cmpR op_ne (qe_dget (pv 2) (pe_ix (qx_tup (K := K) rfl) (pv 4) pe_int (fun _ _ => rfl)) (fun _ _ => rfl) (by exact hu)) (pv 5) (nomark _))
  (pss_one (ps_expr (qe_bm (K := K) rfl PySem.F.plainAttrs_list PySem.F.slot_list_append PySem.F.type_list_append mt_append (pv 3) (pa_cons (pe_tup (pa_cons (pe_ix (qx_tup (K := K) rfl) (pv 4) pe_int (fun _ _ => rfl)) (pa_cons (pe_ix (qx_tup (K := K) rfl) (pv 4) pe_int (fun _ _ => rfl)) (pa_cons (pe_op op_sub (pe_ix (qx_tup (K := K) rfl) (pv 4) pe_int (fun _ _ => rfl)) (pe_ix (qx_tup (K := K) rfl) (qe_dget (pv 1) (pv 5) (fun _ _ => rfl) (by exact hu)) pe_int (fun _ _ => rfl))) pa_nil)))) pa_nil))))
  pss_nil))))
  (pss_one (ps_ret (pv 3))))), ?_⟩
  walk_at "nz"
  refine t_new (κ := oL aRow) (x := []) (by walk_at "ev") ?_
  refine t_forL (l := rows) (fun i => [.is aRows rows, .is (aDK aRow) (pkD pk (gs.length - 1)), .is aPl (plD gs gs.length), .own (oL aRow) (les gs pk (rows.take i)), .any, .any]) (fun _ => True) (by walk_at "ev") ⟨.inr rfl, .inr rfl, .inr rfl, .inr rfl, .inl rfl, .inl rfl, trivial⟩ trivial (fun i r hr' _ d hd => ?_) (fun _ => ?_)
  · have hm := List.mem_of_getElem? hr'
    have ra := FT.rin.a0 r hm
    have rb := FT.rin.b0 r hm
    have lb := Part.lk FT.part (t := r.2.1) (by omega)
    refine t_asg (eg_dgetK (by walk_at "ev") (by walk_at "ev") lb) ?_
    refine t_one (t_if (et_test (eg_neI (eg_dgetK (by walk_at "ev") (by walk_at "ev") (Part.lk FT.part ra)) (by walk_at "ev"))) (fun e => ?_) (fun e => t_go ?_))
    · have c : pl gs r.1 ≠ pl gs r.2.1 := by simp at e; omega
      have p1 : 1 ≤ pl gs r.2.1 := by
        rcases Nat.eq_zero_or_pos (pl gs r.2.1) with z | z
        · have := FT.part.zero (by omega) rb.2 z; omega
        · exact z
      have p2 := FT.part.pl_lt (t := r.2.1) (by omega) rb.2
      refine t_one (t_dropM (em_app rfl (eg_tup3 (by walk_at "ev") (by walk_at "ev") (eg_Ii (by walk_at "ev") (eg_t2 (eg_dgetK (τ := aRow) (by walk_at "ev") (by walk_at "ev") (pkD_lk pk p1 (by omega)))))) ?_) ?_)
      · have := les_len (gs := gs) pk (rows.take i)
        have := FT.few
        rw [List.length_take] at *
        omega
      · refine t_end ⟨.inr rfl, .inr rfl, .inr rfl, .inr ?_, .inl rfl, .inl rfl, trivial⟩ trivial
        rw [les_succ hr', if_pos c]
    · have c : ¬ pl gs r.1 ≠ pl gs r.2.1 := by simp at e; omega
      refine t_end ⟨.inr rfl, .inr rfl, .inr rfl, .inr ?_, .inl rfl, .inl rfl, trivial⟩ trivial
      rw [les_succ hr', if_neg c, List.append_nil]
  · rw [List.take_length]
    exact t_retO rfl (fun h => h) hS
abbrev spJoined : Sp := Pm (fun a : Int × List (List Int) × List Nat => [.is aGrps a.2.1, .is aGrp (ringI a.2.2)]) (fun a => .new (oL aGrp) (wid a.2.1 a.2.2 (wholeL a.2.1 a.2.2))) fun a => a.1 ≤ 12 ∧ Part a.1 a.2.1 ∧ a.2.2.Nodup ∧ ∀ p ∈ a.2.2, p < a.2.1.length
abbrev s_joined : Stmt := top 21
abbrev N_joined : List Str := ["groups", "ring", "found", "whole", "place"]
abbrev P_joined : List Str := ["groups", "ring"]
theorem sc_joined : FnScope N_joined P_joined (defScope s_joined) := ⟨rfl, rfl, rfl, by decide +kernel, rfl, by decide +kernel, by decide +kernel⟩

theorem ok_joined {f : Addr} {fd : FuncData} (F : FunX K "joined" "joined" s_joined f fd) (T : Txt K mg) : FnOk P w K mg base (L2.CX P w) 1 f fd P_joined spJoined := by
  refine okP F sc_joined (fun _ => rfl) fun cdv A outer s H Q E ⟨n, gs, ring⟩ A0 hr ⟨n2, P0, nd, lt⟩ hS => ?_
  have hu := hu_of hr
  refine ⟨_, (pss_cons (qs_setLc (i := 2) (x := "place") (j := 4) rfl sc_joined.nd rfl rfl (sw_true rfl rfl rfl (by decide +kernel)) (pi_range1 rfl T.b_range (pa_cons (pe_callB (qb_len (K := K) rfl) (by rfl) T.b_len (by decide +kernel) (pa_cons (pv 0) pa_nil)) pa_nil)) (blkOk_by (N := N_joined) (sc := defScope s_joined) (by decide +kernel)) (fun _ _ _ _ _ => pg_name (i := 4) sc_joined.nd rfl (Or.inl rfl)) (fun _ _ _ _ _ => by exact (pts_one (pt_cmpR (qo_nin (K := K) rfl) (pv 4) (pv 1) (by with_unfolding_all rfl)))) (fun _ _ _ _ _ => by exact (pe_ix (qx_list (K := K) rfl) (pv 0) (pv 4) (fun _ _ => rfl))))
  (pss_cons (ps_set (i := 3) sc_joined.nd rfl (Or.inl rfl) (pe_lst pa_nil))
  (pss_cons (ps_for PassesOwn.never rfl (qi_list (K := K) rfl (pv 1)) (pg_name (i := 4) sc_joined.nd rfl (Or.inl rfl))
  (pss_one (ps_expr (qe_bm (K := K) rfl PySem.F.plainAttrs_list PySem.F.slot_list_extend PySem.F.type_list_extend mt_extend (pv 3) (pa_cons (pe_ix (qx_list (K := K) rfl) (pv 0) (pv 4) (fun _ _ => rfl)) pa_nil)))))
  (pss_one (ps_ret (pe_op op_cat (pv 2) (pe_lst (pa_cons (pe_callB (qb_sortedI (K := K) rfl) (by rfl) T.b_sorted (by decide +kernel) (pa_cons (pv 3) pa_nil)) pa_nil)))))))), ?_⟩
  walk_at "nz"
  have ln := Part.len P0
  have rl : ring.length ≤ gs.length := by
    have := nd.length_le_of_subset (l₂ := List.range gs.length) fun p hp => List.mem_range.mpr (lt p hp)
    rwa [List.length_range] at this
  have fl := flat_len P0 ring lt
  have fl2 : (ring.flatMap (gp gs)).length ≤ 144 := by
    have : ring.length * n.toNat ≤ 12 * 12 := Nat.mul_le_mul (by omega) (by omega)
    omega
  refine t_new (κ := oL aGrp) (en_lcR (fun i => !ring.contains i) (fun i => gp gs i) (n := (gs.length : Int)) (by walk_at "ev") (by omega) (fun i hi => ?_) (fun i hi _ => ?_)) ?_
  · refine (et_test (eg_nin (by walk_at "ev") (by walk_at "ev"))).eq ?_
    have e : decide ((i : Int) ∈ ringI ring) = ring.contains i := by
      rw [Bool.eq_iff_iff, decide_eq_true_iff, mem_ringI]
      simp
    rw [e]
  · exact eg_ixL (by walk_at "ev") (by walk_at "ev") (at_of (by omega) (by rw [Int.toNat_natCast]; exact gp_lt (by omega)))
  refine t_new (κ := oL aI) (x := []) (by walk_at "ev") ?_
  refine t_forL (l := ringI ring) (fun i => [.is aGrps gs, .is aGrp (ringI ring), .own (oL aGrp) (((List.range gs.length).filter fun p => !ring.contains p).map (gp gs)), .own (oL aI) ((ring.take i).flatMap (gp gs)), .any]) (fun _ => True) (by walk_at "ev") ⟨.inr rfl, .inr rfl, .inr (by rw [Int.toNat_natCast]), .inr rfl, .inl rfl, trivial⟩ trivial (fun i pI hp _ d hd => ?_) (fun _ => ?_)
  · unfold ringI at hp
    rw [List.getElem?_map] at hp
    obtain ⟨p, hp', rfl⟩ := Option.map_eq_some_iff.mp hp
    have hlt := lt p (List.mem_of_getElem? hp')
    have e : (ring.take (i + 1)).flatMap (gp gs) = (ring.take i).flatMap (gp gs) ++ gp gs p := by
      rw [take_succ_of hp', List.flatMap_append]; simp
    refine t_one (t_dropM (em_ext rfl (k := gp gs p) (EG.ex (eg_ixL (by walk_at "ev") (by walk_at "ev") (at_of (by omega) (by rw [Int.toNat_natCast]; exact gp_lt hlt)))) ?_) ?_)
    · have := flat_len P0 (ring.take i) fun q hq => lt q (List.mem_of_mem_take hq)
      have h3 : (ring.take i).length * n.toNat ≤ 12 * 12 := Nat.mul_le_mul (by rw [List.length_take]; omega) (by omega)
      have := Part.glen P0 (gp_mem hlt)
      omega
    · refine t_end ⟨.inr rfl, .inr rfl, .inr rfl, .inr ?_, .inl rfl, trivial⟩ trivial
      rw [e]
  · have e : (ringI ring).length = ring.length := by unfold ringI; rw [List.length_map]
    rw [e, List.take_length]
    refine t_retN (κ := oL aGrp) (en_cat (l := ((List.range gs.length).filter fun p => !ring.contains p).map (gp gs)) (m := [wholeL gs ring]) (by walk_at "ev") (EN.ex (en_lst (eas_cons (EN.fz (κ := oL aI) (en_sortI (EX.el (ex_own rfl)) (wholeL_perm gs ring) (wholeL_srt gs ring))) eas_nil) (by show 1 ≤ 100000; decide))) ?_) hS
    rw [List.length_map]
    have := List.length_filter_le (fun p => !ring.contains p) (List.range gs.length)
    rw [List.length_range] at this
    show _ + 1 ≤ _
    omega

end
end
section
local macro_rules | `(tactic| walk_at "ev") => `(tactic| first
  | ((with_reducible apply eg_var); rfl)
  | with_reducible exact eg_int
  | with_reducible exact eg_bl
  | with_reducible exact eg_str
  | with_reducible exact eg_non
  | ((with_reducible apply eg_Ii); walk_at "ev"; walk_at "ev")
  | ((with_reducible apply eg_Ib); walk_at "ev"; walk_at "ev")
  | ((with_reducible apply eg_Ic); walk_at "ev"; walk_at "ev"; walk_at "side")
  | ((with_reducible apply eg_un); walk_at "ev")
  | ((with_reducible apply eg_chain); walk_at "ev"; walk_at "ev"; walk_at "ev")
  | ((with_reducible apply eg_eqI); walk_at "ev"; walk_at "ev")
  | ((with_reducible apply eg_neI); walk_at "ev"; walk_at "ev")
  | ((with_reducible apply eg_eqS); walk_at "ev"; walk_at "ev")
  | ((with_reducible apply eg_neS); walk_at "ev"; walk_at "ev")
  | ((with_reducible apply eg_eqO); walk_at "ev"; walk_at "ev")
  | ((with_reducible apply eg_neO); walk_at "ev"; walk_at "ev")
  | ((with_reducible apply eg_isO); walk_at "ev")
  | ((with_reducible apply eg_notO); walk_at "ev")
  | ((with_reducible apply eg_isT objT3); walk_at "ev")
  | ((with_reducible apply eg_isT objL); walk_at "ev")
  | ((with_reducible apply eg_p0); walk_at "ev")
  | ((with_reducible apply eg_p1); walk_at "ev")
  | ((with_reducible apply eg_t0); walk_at "ev")
  | ((with_reducible apply eg_t1); walk_at "ev")
  | ((with_reducible apply eg_t2); walk_at "ev")
  | ((with_reducible apply eg_len (τ := aRow)); walk_at "ev")
  | ((with_reducible apply eg_len); walk_at "ev")
  | ((with_reducible apply eg_tup2); walk_at "ev"; walk_at "ev")
  | ((with_reducible apply eg_tup3); walk_at "ev"; walk_at "ev"; walk_at "ev")
  | ((with_reducible apply eg_in); walk_at "ev"; walk_at "ev")
  | ((with_reducible apply eg_nin); walk_at "ev"; walk_at "ev")
  | ((with_reducible apply eg_sum); walk_at "ev")
  | ((with_reducible apply eg_all); walk_at "ev")
  | ((with_reducible apply eg_max2); walk_at "ev"; walk_at "ev")
  | ((with_reducible apply eg_get1); walk_at "ev"; walk_at "ev")
  | ((with_reducible apply eg_din); walk_at "ev"; walk_at "ev")
  | ((with_reducible apply eg_dnin); walk_at "ev"; walk_at "ev")
  | ((with_reducible apply eg_lenT); walk_at "ev")
  | ((with_reducible apply eg_not); walk_at "ev")
  | ((with_reducible apply eg_and'); walk_at "ev"; walk_at "ev")
  | ((with_reducible apply eg_or'); walk_at "ev"; walk_at "ev")
  | ((with_reducible apply et_not); walk_at "ev")
  | ((with_reducible apply et_and'); walk_at "ev"; walk_at "ev")
  | ((with_reducible apply et_or'); walk_at "ev"; walk_at "ev")
  | ((with_reducible apply et_test); walk_at "ev")
  | ((with_reducible apply et_B); walk_at "ev")
  | with_reducible exact et_yes
  | ((with_reducible apply ekp_tup); walk_at "ev"; walk_at "ev")
  | ((with_reducible apply ekp_of); walk_at "ev")
  | ((with_reducible apply edt_own); rfl)
  | ((with_reducible apply EG.edt); walk_at "ev")
  | ((with_reducible apply edk_own); rfl)
  | ((with_reducible apply EG.edk); walk_at "ev")
  | ((with_reducible apply ex_own); rfl)
  | ((with_reducible apply EX.el); (with_reducible apply ex_own); rfl)
  | ((with_reducible apply EG.el); walk_at "ev")
  | ((with_reducible apply EG.scr); walk_at "ev")
  | ((with_reducible apply EG.ef); walk_at "ev")
  | ((with_reducible apply EG.ex); walk_at "ev")
  | ((with_reducible apply EX.el); (with_reducible apply EN.ex); walk_at "ev")
  | ((with_reducible apply EN.ex); walk_at "ev")
  | ((with_reducible apply eb_see); rfl)
  | ((with_reducible apply eb_own); rfl)
  | ((with_reducible apply eb_of); walk_at "ev")
  | with_reducible exact ea_nil
  | ((with_reducible apply ea_is); walk_at "ev"; walk_at "ev")
  | ((with_reducible apply ea_see); walk_at "ev"; walk_at "ev")
  | with_reducible exact eas_nil
  | ((with_reducible apply eas_cons); walk_at "ev"; walk_at "ev")
  | ((with_reducible apply en_lst); walk_at "ev"; exact Nat.le_of_ble_eq_true rfl)
  | ((with_reducible apply en_list); walk_at "ev")
  | with_reducible exact en_dK
  | with_reducible exact en_dT
  | ((with_reducible apply eg_size); walk_at "ev"; exact Txt.cl (by assumption); exact Txt.nS (by assumption))
  | ((with_reducible apply edt_costs); walk_at "ev"; exact Txt.cl (by assumption); exact Txt.nC (by assumption)))
local macro_rules | `(tactic| walk_at "side") => `(tactic| first
  | exact ⟨by decide, by decide⟩
  | exact .inr ⟨by decide, by decide⟩
  | exact .inl ⟨by decide, by decide⟩
  | decide
  | omega
  | (show (0 : Int) < _; omega))
local macro_rules | `(tactic| walk_at "nz") => `(tactic| (try dsimp only [entS] at *))
section
variable {P : Program} {w : World} {K : PySem.W.Frag} {mg : Str → Option Value} {base : Heap}
/-! ### judging: the ring -/
def spRing (K : PySem.W.Frag) : Sp := fun vs H Q _ => ∃ (n : Int) (gs : List (List Int)) (rows : List Rw3) (pk : Nat → Rw3) (A : Hp) (d : Addr) (us : List (Key × V)) (vp : V), vs = [.ref d, vp] ∧ n ≤ 12 ∧ Level n gs rows pk ∧
  Ex A H ∧ A d = none ∧ H d = some (.dK us) ∧ Ents aRow A us (pkD pk (gs.length - 1)) ∧ aPl.R (plD gs gs.length) A vp ∧ ∀ x v H', RingOk gs pk x → RetIs ⟨A, H, fun a => ∃ o, H a = some o, fun _ => False⟩ (aOp aGrp) x v H' → Q v H'
abbrev s_ring_of : Stmt := top 19
abbrev N_ring_of : List Str := ["picks", "places", "start", "gone", "here"]
abbrev P_ring_of : List Str := ["picks", "places"]
theorem sc_ring_of : FnScope N_ring_of P_ring_of (defScope s_ring_of) := ⟨rfl, rfl, rfl, by decide +kernel, rfl, by decide +kernel, by decide +kernel⟩

theorem ok_ring_of {f : Addr} {fd : FuncData} (F : FunX K "ring_of" "ring_of" s_ring_of f fd) (T : Txt K mg) : FnOk P w K mg base (L2.CX P w) 1 f fd P_ring_of (spRing K) := by
  obtain ⟨oc, od, kV, doc, pm, an, cdv, ct, osl, rfl, lk, hcd⟩ := F.ex
  refine fn_of lk hcd sc_ring_of (fun vs H Q E ⟨n, gs, rows, pk, A, d, us, vp, h, _⟩ => by rw [h]; rfl) fun A outer s H vs Q E hr hsp => ?_
  have hu := hu_of hr
  refine ⟨_, PSs.nox (pss_cons (ps_lock (ps_for PassesOwn.never rfl (pi_keys (pv 0)) (pg_name (i := 2) sc_ring_of.nd rfl (Or.inl rfl))
  (pss_cons (ps_set (i := 3) sc_ring_of.nd rfl (Or.inl rfl) (pe_lst pa_nil))
  (pss_cons (ps_set (i := 4) sc_ring_of.nd rfl (Or.inl rfl) (pv 2))
  (pss_cons (ps_while PassesOwn.never (PW.pt (pw_and (pt_cmpR op_ne (pv 4) pe_int (nomark _)) (pw_and1 (pt_cmpR (qo_nin (K := K) rfl) (pv 4) (pv 3) (by with_unfolding_all rfl)))))
  (pss_cons (ps_expr (qe_bm (K := K) rfl PySem.F.plainAttrs_list PySem.F.slot_list_append PySem.F.type_list_append mt_append (pv 3) (pa_cons (pv 4) pa_nil)))
  (pss_one (ps_set (i := 4) sc_ring_of.nd rfl (Or.inl rfl) (qe_dget (pv 1) (pe_ix (qx_tup (K := K) rfl) (qe_dget (pv 0) (pv 4) (fun _ _ => rfl) (by exact hu)) pe_int (fun _ _ => rfl)) (fun _ _ => rfl) (by exact hu))))))
  (pss_one (ps_if (pt_cmpR op_ne (pv 4) pe_int (nomark _))
  (pss_one (ps_ret (pe_slice (ql_list (K := K) rfl) (pv 3) (po_some (qe_bm (K := K) rfl PySem.F.plainAttrs_list PySem.F.slot_list_index PySem.F.type_list_index (qm_index (K := K) rfl) (pv 3) (pa_cons (pv 4) pa_nil))) po_none)))
  pss_nil)))))))
  (pss_one (ps_ret pe_non))), ?_⟩
  obtain ⟨n, gs, rows, pk, A1, d, us, vp, rfl, n2, L, eA, hAd, hd, hE, hp, hQ⟩ := hsp
  have P0 := L.part
  have ln := Part.len P0
  have hd0 := enterO (N := N_ring_of) (Ss := [.own (oDU aRow d us) (pkD pk (gs.length - 1)), .is aPl (plD gs gs.length)]) (vs := [.ref d, vp]) (j := 0) eA hAd hd rfl rfl (κ := oDU aRow d us) (x := pkD pk (gs.length - 1)) ⟨rfl, rfl, hE⟩ (fun i s hs hi => by
    match i, hs with
    | 0, _ => exact absurd rfl hi
    | 1, hs => cases hs; exact ⟨vp, rfl, vp, rfl, hp⟩
    | i + 2, hs => simp at hs) rfl (Nat.le_of_ble_eq_true rfl)
  have hq : ∀ x, RingOk gs pk x → ∀ v H', RetIs (cwO A1 H d 0) (aOp aGrp) x v H' → H' d = some (.dK us) → Q v H' := fun x hx v H' r h' => by
    refine hQ x v H' hx ⟨r.ex, fun a o ho => ?_, r.dm⟩
    have ho' : H a = some o := ho
    by_cases z : a = d
    · rw [z, hd] at ho'; rw [z, h']; exact ho'
    · exact r.fr a o (by show del H d a = some o; rw [del_ne z]; exact ho')
  refine (?_ : Tr (cwO A1 H d 0) (entS N_ring_of _) _ _) _ _ hd0
  clear hd0 hQ
  walk_at "nz"
  have hm1 : 1 ≤ gs.length := P0.pos
  refine t_lock (i := 0) rfl fun od' => ?_
  refine t_one (t_forK (i := 0) (j := 2) (fun i => [.own (oFz aRow d od' us) (pkD pk (gs.length - 1)), .is aPl (plD gs gs.length), .any, .any, .any]) (fun i => ∀ p, 1 ≤ p → p < 1 + i → ∃ m, iter (nx gs pk) m p = 0) rfl (fun _ => rfl) ⟨.inr rfl, .inr rfl, .inl rfl, .inl rfl, .inl rfl, trivial⟩ (fun p a b => by omega) (fun i e he ih => ?_) (fun ih => ?_))
  · have hi : i < gs.length - 1 ∧ e = (((1 + i : Nat) : Int), pk (1 + i)) := by
      have h1 := (List.getElem?_eq_some_iff.mp he).1
      rw [pkD_len] at h1
      unfold pkD at he
      rw [List.getElem?_map, List.getElem?_range' h1] at he
      refine ⟨h1, ?_⟩
      have := Option.some.inj he
      rw [← this, Nat.one_mul]
    obtain ⟨hi, rfl⟩ := hi
    generalize hpp : 1 + i = p at *
    have hp2 : p < gs.length := by omega
    refine t_new (κ := oL aI) (x := []) (by walk_at "ev") ?_
    refine t_asg (x := (p : Int)) (τ := aI) (by walk_at "ev") ?_
    refine t_while (ι := Nat) (fun k => [.own (oFz aRow d od' us) (pkD pk (gs.length - 1)), .is aPl (plD gs gs.length), .any, .own (oL aI) (ringI (path (nx gs pk) p k)), .is aI ((iter (nx gs pk) k p : Nat) : Int)]) (Way gs pk p) (fun k => gs.length + 1 - k)
      (fun k => (!decide (((iter (nx gs pk) k p : Nat) : Int) = 0)) && !decide (((iter (nx gs pk) k p : Nat) : Int) ∈ ringI (path (nx gs pk) p k))) 0 ⟨.inr rfl, .inr rfl, .inl rfl, .inr rfl, .inr rfl, trivial⟩ (Way.start p hp2) (fun k wk => by walk_at "ev") (fun k wk hb => ?_) (fun k wk hb => ?_)
    · have h0 : iter (nx gs pk) k p ≠ 0 := by simp at hb; omega
      have hn : iter (nx gs pk) k p ∉ path (nx gs pk) p k := by
        simp at hb
        intro q
        exact hb.2 (mem_ringI.mpr q)
      have wn := wk.next L h0 hn
      have hl := wk.here
      have mm := (L.pk _ (by omega) hl).mem
      have e2 : iter (nx gs pk) (k + 1) p = pl gs (pk (iter (nx gs pk) k p)).1 := by
        rw [iter_one]; exact if_neg h0
      refine t_dropM (em_app rfl (by walk_at "ev") ?_) ?_
      · have := wk.few
        unfold ringI
        rw [List.length_map, path_len]
        omega
      refine t_one (t_asg (eg_dgetK (by walk_at "ev") (eg_t0 (eg_dgetK (τ := aRow) (edk_fz rfl) (by walk_at "ev") (pkD_lk pk (by omega) (by omega)))) (Part.lk P0 (L.rin.a0 _ mm))) ?_)
      refine t_endW (k + 1) ⟨.inr rfl, .inr rfl, .inl rfl, .inr ?_, .inr ?_, trivial⟩ wn ?_
      · unfold ringI
        rw [path_succ, List.map_append]; rfl
      · rw [e2]
      · have := wn.few
        show gs.length + 1 - (k + 1) < gs.length + 1 - k
        omega
    · refine t_one (t_if (b := !decide (((iter (nx gs pk) k p : Nat) : Int) = 0)) (by walk_at "ev") (fun e => ?_) (fun e => t_go ?_))
      · have h0 : iter (nx gs pk) k p ≠ 0 := by simp at e; omega
        have hm : iter (nx gs pk) k p ∈ path (nx gs pk) p k := by
          rw [e] at hb
          simp at hb
          exact mem_ringI.mp hb
        obtain ⟨j, hj⟩ := List.mem_iff_getElem?.mp hm
        have hjk : j < k := by have := (List.getElem?_eq_some_iff.mp hj).1; rwa [path_len] at this
        have ej : iter (nx gs pk) j p = iter (nx gs pk) k p := by
          rw [path_get hjk] at hj; exact Option.some.inj hj
        have R := wk.ring h0 hjk ej
        refine t_retL (i := 0) (x := some (ringI ((path (nx gs pk) p k).drop j))) rfl (EG.ofSome ?_) (hq _ ⟨_, rfl, R⟩)
        have es : cutL (ringI (path (nx gs pk) p k)) (some (j : Int)) none = ringI ((path (nx gs pk) p k).drop j) := by
          rw [cutL_from (by unfold ringI; rw [List.length_map, path_len]; omega)]
          unfold ringI; rw [List.map_drop]
        rw [← es]
        refine EN.fz (κ := oL aI) (en_slice (by walk_at "ev") (eo_some (eg_index (by walk_at "ev") (by walk_at "ev") ?_ fun m z hm' hz => ?_)) eo_none)
        · unfold ringI; rw [List.getElem?_map, hj]; rfl
        · unfold ringI at hz
          rw [List.getElem?_map, path_get (by omega)] at hz
          have hz' : ((iter (nx gs pk) m p : Nat) : Int) = z := Option.some.inj hz
          intro q
          have e3 : iter (nx gs pk) m p = iter (nx gs pk) j p := by omega
          have nd := List.pairwise_iff_getElem.mp (show (path (nx gs pk) p k).Pairwise (· ≠ ·) from wk.nd) m j (by rw [path_len]; omega) (by rw [path_len]; omega) hm'
          apply nd
          have g1 := path_get (f := nx gs pk) (p := p) (show m < k by omega)
          have g2 := path_get (f := nx gs pk) (p := p) hjk
          rw [List.getElem?_eq_getElem (by rw [path_len]; omega)] at g1 g2
          rw [Option.some.inj g1, Option.some.inj g2, e3]
      · have h0 : iter (nx gs pk) k p = 0 := by simp at e; omega
        refine t_end ⟨.inr rfl, .inr rfl, .inl rfl, .inl rfl, .inl rfl, trivial⟩ fun p' a b => ?_
        by_cases q : p' < p
        · exact ih p' a (by omega)
        · have : p' = p := by omega
          rw [this]; exact ⟨k, h0⟩
  · refine t_unlock (i := 0) rfl ?_
    refine t_retU (i := 0) rfl (EG.ofNone (τ := aGrp) eg_non) (hq none fun p a b => ih p a ?_)
    rw [pkD_len]; omega

end
end
section
local macro_rules | `(tactic| walk_at "ev") => `(tactic| first
  | ((with_reducible apply eg_var); rfl)
  | with_reducible exact eg_int
  | with_reducible exact eg_bl
  | with_reducible exact eg_str
  | with_reducible exact eg_non
  | ((with_reducible apply eg_Ii); walk_at "ev"; walk_at "ev")
  | ((with_reducible apply eg_Ib); walk_at "ev"; walk_at "ev")
  | ((with_reducible apply eg_Ic); walk_at "ev"; walk_at "ev"; walk_at "side")
  | ((with_reducible apply eg_un); walk_at "ev")
  | ((with_reducible apply eg_chain); walk_at "ev"; walk_at "ev"; walk_at "ev")
  | ((with_reducible apply eg_eqI); walk_at "ev"; walk_at "ev")
  | ((with_reducible apply eg_neI); walk_at "ev"; walk_at "ev")
  | ((with_reducible apply eg_eqS); walk_at "ev"; walk_at "ev")
  | ((with_reducible apply eg_neS); walk_at "ev"; walk_at "ev")
  | ((with_reducible apply eg_eqO); walk_at "ev"; walk_at "ev")
  | ((with_reducible apply eg_neO); walk_at "ev"; walk_at "ev")
  | ((with_reducible apply eg_isO); walk_at "ev")
  | ((with_reducible apply eg_notO); walk_at "ev")
  | ((with_reducible apply eg_isT objT3); walk_at "ev")
  | ((with_reducible apply eg_isT objL); walk_at "ev")
  | ((with_reducible apply eg_p0); walk_at "ev")
  | ((with_reducible apply eg_p1); walk_at "ev")
  | ((with_reducible apply eg_t0); walk_at "ev")
  | ((with_reducible apply eg_t1); walk_at "ev")
  | ((with_reducible apply eg_t2); walk_at "ev")
  | ((with_reducible apply eg_len (τ := aRow)); walk_at "ev")
  | ((with_reducible apply eg_len); walk_at "ev")
  | ((with_reducible apply eg_tup2); walk_at "ev"; walk_at "ev")
  | ((with_reducible apply eg_tup3); walk_at "ev"; walk_at "ev"; walk_at "ev")
  | ((with_reducible apply eg_in); walk_at "ev"; walk_at "ev")
  | ((with_reducible apply eg_nin); walk_at "ev"; walk_at "ev")
  | ((with_reducible apply eg_sum); walk_at "ev")
  | ((with_reducible apply eg_all); walk_at "ev")
  | ((with_reducible apply eg_max2); walk_at "ev"; walk_at "ev")
  | ((with_reducible apply eg_get1); walk_at "ev"; walk_at "ev")
  | ((with_reducible apply eg_din); walk_at "ev"; walk_at "ev")
  | ((with_reducible apply eg_dnin); walk_at "ev"; walk_at "ev")
  | ((with_reducible apply eg_lenT); walk_at "ev")
  | ((with_reducible apply eg_not); walk_at "ev")
  | ((with_reducible apply eg_and'); walk_at "ev"; walk_at "ev")
  | ((with_reducible apply eg_or'); walk_at "ev"; walk_at "ev")
  | ((with_reducible apply et_not); walk_at "ev")
  | ((with_reducible apply et_and'); walk_at "ev"; walk_at "ev")
  | ((with_reducible apply et_or'); walk_at "ev"; walk_at "ev")
  | ((with_reducible apply et_test); walk_at "ev")
  | ((with_reducible apply et_B); walk_at "ev")
  | with_reducible exact et_yes
  | ((with_reducible apply ekp_tup); walk_at "ev"; walk_at "ev")
  | ((with_reducible apply ekp_of); walk_at "ev")
  | ((with_reducible apply edt_own); rfl)
  | ((with_reducible apply EG.edt); walk_at "ev")
  | ((with_reducible apply edk_own); rfl)
  | ((with_reducible apply EG.edk); walk_at "ev")
  | ((with_reducible apply ex_own); rfl)
  | ((with_reducible apply EX.el); (with_reducible apply ex_own); rfl)
  | ((with_reducible apply EG.el); walk_at "ev")
  | ((with_reducible apply EG.scr); walk_at "ev")
  | ((with_reducible apply EG.ef); walk_at "ev")
  | ((with_reducible apply EG.ex); walk_at "ev")
  | ((with_reducible apply EX.el); (with_reducible apply EN.ex); walk_at "ev")
  | ((with_reducible apply EN.ex); walk_at "ev")
  | ((with_reducible apply eb_see); rfl)
  | ((with_reducible apply eb_own); rfl)
  | ((with_reducible apply eb_of); walk_at "ev")
  | with_reducible exact ea_nil
  | ((with_reducible apply ea_is); walk_at "ev"; walk_at "ev")
  | ((with_reducible apply ea_see); walk_at "ev"; walk_at "ev")
  | with_reducible exact eas_nil
  | ((with_reducible apply eas_cons); walk_at "ev"; walk_at "ev")
  | ((with_reducible apply en_lst); walk_at "ev"; exact Nat.le_of_ble_eq_true rfl)
  | ((with_reducible apply en_list); walk_at "ev")
  | with_reducible exact en_dK
  | with_reducible exact en_dT
  | ((with_reducible apply eg_size); walk_at "ev"; exact Txt.cl (by assumption); exact Txt.nS (by assumption))
  | ((with_reducible apply edt_costs); walk_at "ev"; exact Txt.cl (by assumption); exact Txt.nC (by assumption)))
local macro_rules | `(tactic| walk_at "side") => `(tactic| first
  | exact ⟨by decide, by decide⟩
  | exact .inr ⟨by decide, by decide⟩
  | exact .inl ⟨by decide, by decide⟩
  | decide
  | omega
  | (show (0 : Int) < _; omega))
local macro_rules | `(tactic| walk_at "nz") => `(tactic| (try dsimp only [entS] at *))
section
variable {P : Program} {w : World} {K : PySem.W.Frag} {mg : Str → Option Value} {base : Heap}
/-! ### solving -/
abbrev aPrice : Ty Price := aP aGrp aI
/-- ("lonely", ..) or ("family", ..) -/
def aTag {α β : Type} (τ : Ty α) (θ : Ty β) : Ty (α ⊕ β) := ⟨fun x F v => match x with
  | .inl g => ∃ p w, v = .ref p ∧ F p = some (.tup [.str "lonely", w]) ∧ τ.R g F w
  | .inr l => ∃ p w, v = .ref p ∧ F p = some (.tup [.str "family", w]) ∧ θ.R l F w, fun {x F F' v} h e => match x, h with
  | .inl g, ⟨p, w, h1, h2, h3⟩ => ⟨p, w, h1, e _ _ h2, τ.up h3 e⟩
  | .inr l, ⟨p, w, h1, h2, h3⟩ => ⟨p, w, h1, e _ _ h2, θ.up h3 e⟩⟩
abbrev aSol : Ty (List Int ⊕ List Rw3) := aTag aGrp aRows
def tagS {α β : Type} : α ⊕ β → Str
  | .inl _ => "lonely"
  | .inr _ => "family"
section
variable {α β : Type} {c : Cw} {Γ : List Spec} {te : TE} {τ : Ty α} {θ : Ty β}
theorem eg_tag0 {x : α ⊕ β} (h : EG c Γ te (aTag τ θ) x) : EG c Γ (tOp (rIxT K) te (tC (.int 0))) aS (tagS x) := fun σ F Ms H w Q q => h σ F Ms H w _ fun v F1 H1 s1 r => by
  cases x with
  | inl g => obtain ⟨p, u, e, h1, h2⟩ := r; exact ⟨p, _, 0, _, e, rfl, .inl (.inl (s1.fh _ _ h1)), rfl, q _ F1 H1 s1 rfl⟩
  | inr g => obtain ⟨p, u, e, h1, h2⟩ := r; exact ⟨p, _, 0, _, e, rfl, .inl (.inl (s1.fh _ _ h1)), rfl, q _ F1 H1 s1 rfl⟩
theorem eg_tagL {x : α} (h : EG c Γ te (aTag τ θ) (.inl x)) : EG c Γ (tOp (rIxT K) te (tC (.int 1))) τ x := fun σ F Ms H w Q q => h σ F Ms H w _ fun v F1 H1 s1 r => by
  obtain ⟨p, u, e, h1, h2⟩ := r; exact ⟨p, _, 1, u, e, rfl, .inl (.inl (s1.fh _ _ h1)), rfl, q _ F1 H1 s1 h2⟩
theorem eg_tagF {x : β} (h : EG c Γ te (aTag τ θ) (.inr x)) : EG c Γ (tOp (rIxT K) te (tC (.int 1))) θ x := fun σ F Ms H w Q q => h σ F Ms H w _ fun v F1 H1 s1 r => by
  obtain ⟨p, u, e, h1, h2⟩ := r; exact ⟨p, _, 1, u, e, rfl, .inl (.inl (s1.fh _ _ h1)), rfl, q _ F1 H1 s1 h2⟩
theorem eg_mkL {x : α} (h : EG c Γ te τ x) : EG c Γ (tTup (tCons (tC (.str "lonely")) (tCons te tNil))) (aTag τ θ) (.inl x) := (eg_tup2 eg_str h).conv fun F v ⟨p, u, w', e, h, r1, r2⟩ => ⟨p, w', e, by rw [h, show u = V.str "lonely" from r1], r2⟩
theorem eg_mkF {x : β} (h : EG c Γ te θ x) : EG c Γ (tTup (tCons (tC (.str "family")) (tCons te tNil))) (aTag τ θ) (.inr x) := (eg_tup2 eg_str h).conv fun F v ⟨p, u, w', e, h, r1, r2⟩ => ⟨p, w', e, by rw [h, show u = V.str "family" from r1], r2⟩
end
theorem tag_ne : ¬ (("family" : Str) = "lonely") := by decide +kernel
def xlen : List Int ⊕ List Rw3 → Nat
  | .inl _ => 0
  | .inr F => F.length
def spSolved (m : Nat) : Sp := fun vs H Q _ => ∃ (n : Int) (gs : List (List Int)) (rows : List Rw3) (ps : List Price) (A : Hp) (q : Addr) (us : List V) (vg vr : V), vs = [vg, vr, .ref q] ∧ gs.length ≤ m ∧ m ≤ 12 ∧ Fit n gs rows ∧ ps.length + 12 * m ≤ 1000 ∧
  Ex A H ∧ A q = none ∧ H q = some (.lst us) ∧ Its aPrice A us ps ∧ aGrps.R gs A vg ∧ aRows.R rows A vr ∧
  ∀ x P v H', SolvedOk n gs rows P x → P.length ≤ 12 * m → xlen x ≤ 12 * m → RetO (cwO A H q 2) aSol x ((oL aPrice).at (.ref q)) (ps ++ P) (.ref q) v H' → Q v H'
theorem emp_solved {c : Cw} {Γ : List Spec} {tg tr : TE} {n : Int} {gs : List (List Int)} {rows : List Rw3} {ps : List Price} {m i : Nat} {v0 : V} {E : XK} (h : Γ[i]? = some (.own ((oL aPrice).at v0) ps)) (hg : EG c Γ tg aGrps gs) (hr : EG c Γ tr aRows rows)
    (hm : gs.length ≤ m) (m12 : m ≤ 12) (FT : Fit n gs rows) (hl : ps.length + 12 * m ≤ 1000) :
    EMP c Γ (tCall (spSolved m) [] E (tCons tg (tCons tr (tCons (tVar i) tNil)))) aSol (fun x Δ => ∃ P, SolvedOk n gs rows P x ∧ P.length ≤ 12 * m ∧ xlen x ≤ 12 * m ∧ Δ = Γ.set i (.own ((oL aPrice).at v0) (ps ++ P))) := fun σ F Ms H w Q k => by
  obtain ⟨v, h1, e0, q, us, e, mm, r⟩ := w.ok i _ h
  subst e
  subst e0
  refine hg σ F Ms H w _ fun vg F1 H1 s1 r1 => hr σ F1 Ms H1 (w.step s1) _ fun vr F2 H2 s2 r2 => ⟨_, h1, ?_⟩
  have w2 := (w.step s1).step s2
  have hq : Ms i q = some (.lst us) := by rw [mm]; exact one_at
  refine ⟨n, gs, rows, ps, F2, q, us, vg, vr, rfl, hm, m12, FT, hl, w2.fx, w2.mf i q _ hq, w2.mx i _ _ hq, (r.up s1.f).up s2.f, aGrps.up r1 s2.f, r2, fun x P v H' sx lp lx ro => ?_⟩
  obtain ⟨G, M, g1, g2, g3, g4, g5, g6, g7⟩ := ro.ex
  obtain ⟨v', k1, k2, k3, kk⟩ := w2.mut (κ' := (oL aPrice).at (.ref q)) (y := ps ++ P) h
  have ev : v' = .ref q := by rw [h1] at k1; exact (Option.some.inj (Option.some.inj k1)).symm
  subst ev
  obtain ⟨_, q', us', eq', mq, _⟩ := id g7
  cases eq'
  have hMq : M q = some (.lst us') := by rw [mq]; exact one_at
  refine k x _ v G _ H' ⟨P, sx, lp, lx, rfl⟩ (kk M G H' g1 g5 (fun a o ha hn => ?_) (fun a ⟨o, ho⟩ => ?_) (fun a o ho => ?_) g6 g2 (fun a o ho hn => ?_) g7) g4
  · have : a ≠ q := fun e => by rw [e, hq] at hn; cases hn
    exact ro.fr a o (by show del H2 q a = some o; rw [del_ne this]; exact ha)
  · rw [mm] at ho
    obtain ⟨rfl, _⟩ := one_some ho
    exact ⟨_, g5 _ _ hMq⟩
  · rw [mq] at ho
    obtain ⟨rfl, _⟩ := one_some ho
    exact .inl ⟨_, hq⟩
  · exact none_of fun u hu => g3 a o ho hn ⟨u, hu⟩
theorem ep_ring {c : Cw} {Γ : List Spec} {tp : TE} {n : Int} {gs : List (List Int)} {rows : List Rw3} {pk : Nat → Rw3} {i : Nat} {E : XK} (h : Γ[i]? = some (.own (oDK aRow) (pkD pk (gs.length - 1)))) (hp : EG c Γ tp aPl (plD gs gs.length)) (n2 : n ≤ 12) (L : Level n gs rows pk) :
    EP c Γ (tCall (spRing K) [] E (tCons (tVar i) (tCons tp tNil))) (aOp aGrp) (RingOk gs pk) := fun σ F Ms H w Q k => by
  obtain ⟨v, h1, d, us, e, mm, r⟩ := w.ok i _ h
  subst e
  refine ⟨_, h1, hp σ F Ms H w _ fun vp F1 H1 s1 r1 => ?_⟩
  have w1 := w.step s1
  have hd : Ms i d = some (.dK us) := by rw [mm]; exact one_at
  refine ⟨n, gs, rows, pk, F1, d, us, vp, rfl, n2, L, w1.fx, w1.mf i d _ hd, w1.mx i _ _ hd, r.up s1.f, r1, fun x v H' hx ro => ?_⟩
  obtain ⟨G, s2, r2⟩ := RetIs.stp (A := F1) (H := H1) ro
  exact k x v G H' hx (s1.trans s2) r2
theorem atI_last {α : Type} {l : List α} {x : α} (h : l[l.length - 1]? = some x) : atI l (-1) = some x := by
  have hl := (List.getElem?_eq_some_iff.mp h).1
  unfold atI ixN
  rw [if_neg (by omega), if_pos (by omega)]
  show l[((-1 : Int) + (l.length : Int)).toNat]? = some x
  rw [show ((-1 : Int) + (l.length : Int)).toNat = l.length - 1 by omega]
  exact h
theorem fit_wide {n : Int} {gs : List (List Int)} {rows : List Rw3} {pk : Nat → Rw3} {ring : List Nat} (FT : Fit n gs rows) (L : Level n gs rows pk) (R : Ring gs pk ring) : Fit n (wid gs ring (wholeL gs ring)) (les gs pk rows) where
  n2 := FT.n2
  part := part_wid L.part R.rg R.ne (whole_is L.part R.nd fun p hp => (R.rg p hp).2)
  rin := L.rin_les
  few := by have := les_len (gs := gs) pk rows; have := FT.few; omega
abbrev s_solved : Stmt := top 22
abbrev N_solved : List Str := ["groups", "rows", "prices", "places", "picks", "place", "pick", "ring", "wide", "found", "entered", "row"]
abbrev P_solved : List Str := ["groups", "rows", "prices"]
theorem sc_solved : FnScope N_solved P_solved (defScope s_solved) := ⟨rfl, rfl, rfl, by decide +kernel, rfl, by decide +kernel, by decide +kernel⟩

theorem solved_step {f : Addr} {fd : FuncData} (F : FunX K "solved" "solved" s_solved f fd) (T : Txt K mg) (c_places_of : Cal P w K mg base 1 "places_of" spPlaces) (c_cheapest : Cal P w K mg base 1 "cheapest" spCheap) (c_ring_of : Cal P w K mg base 1 "ring_of" (spRing K))
    (c_joined : Cal P w K mg base 1 "joined" spJoined) (c_lessened : Cal P w K mg base 1 "lessened" spLessened) {m : Nat} (c_solved : Cal P w K mg base (2 + m) "solved" (spSolved m)) : FnOk P w K mg base (L2.CX P w) (2 + m + 1) f fd P_solved (spSolved (m + 1)) := by
  obtain ⟨oc, od, kV, doc, pm, an, cdv, ct, osl, rfl, lk, hcd⟩ := F.ex
  refine fn_of lk hcd sc_solved (fun vs H Q E ⟨n, gs, rows, ps, A, q, us, vg, vr, h, _⟩ => by rw [h]; rfl) fun A outer s H vs Q E hr hsp => ?_
  have hu := hu_of hr
  refine ⟨_, PSs.nox (pss_cons (ps_set (i := 3) sc_solved.nd rfl (Or.inl rfl) (pe_cN c_places_of hr (by first | decide | omega) rfl (pa_cons (pv 0) pa_nil)))
  (pss_cons (ps_set (i := 4) sc_solved.nd rfl (Or.inr rfl) pe_dnewK)
  (pss_cons (ps_for PassesOwn.never rfl (pi_range2 rfl T.b_range (pa_cons pe_int (pa_cons (pe_callB (qb_len (K := K) rfl) (by rfl) T.b_len (by decide +kernel) (pa_cons (pv 0) pa_nil)) pa_nil))) (pg_name (i := 5) sc_solved.nd rfl (Or.inl rfl))
  (pss_cons (ps_set (i := 6) sc_solved.nd rfl (Or.inl rfl) (pe_cN c_cheapest hr (by first | decide | omega) rfl (pa_cons (pv 1) (pa_cons (pv 3) (pa_cons (pv 5) pa_nil)))))
  (pss_cons (ps_if (pt_cmpR op_isN (pv 6) pe_non (nomark _))
  (pss_one (ps_ret (pe_tup (pa_cons pe_str (pa_cons (pe_ix (qx_list (K := K) rfl) (pv 0) (pv 5) (fun _ _ => rfl)) pa_nil)))))
  pss_nil)
  (pss_cons (qs_dput (pv 4) (pv 5) (pv 6) rfl (by exact hu))
  (pss_one (ps_if (pt_cmpR op_gt (pe_ix (qx_tup (K := K) rfl) (pv 6) pe_int (fun _ _ => rfl)) pe_int (nomark _))
  (pss_one (ps_expr (qe_bm (K := K) rfl PySem.F.plainAttrs_list PySem.F.slot_list_append PySem.F.type_list_append mt_append (pv 2) (pa_cons (pe_tup (pa_cons (pe_callTy (qb_list (K := K) rfl) (by rfl) T.b_list (by decide +kernel) (pa_cons (pe_ix (qx_list (K := K) rfl) (pv 0) (pv 5) (fun _ _ => rfl)) pa_nil)) (pa_cons (pe_ix (qx_tup (K := K) rfl) (pv 6) pe_int (fun _ _ => rfl)) pa_nil))) pa_nil))))
  pss_nil))))))
  (pss_cons (ps_set (i := 7) sc_solved.nd rfl (Or.inl rfl) (pe_cN c_ring_of hr (by first | decide | omega) rfl (pa_cons (pv 4) (pa_cons (pv 3) pa_nil))))
  (pss_cons (ps_if (pt_cmpR op_isN (pv 7) pe_non (nomark _))
  (pss_one (ps_ret (pe_tup (pa_cons pe_str (pa_cons (pe_lock (qe_lc (x := "place") (j := 5) (tt := tYes) rfl sc_solved.nd (pi_keys (pv 4)) (blkOk_by (N := N_solved) (sc := defScope s_solved) (by decide +kernel)) (fun _ _ _ _ _ => pg_name (i := 5) sc_solved.nd rfl (Or.inl rfl)) (fun _ _ _ _ _ => by exact pts_nil) (fun _ _ _ _ _ => by exact (qe_dget (pv 4) (pv 5) (fun _ _ => rfl) (by exact hu))))) pa_nil)))))
  pss_nil)
  (pss_cons (ps_set (i := 8) sc_solved.nd rfl (Or.inr rfl) (pe_cN c_joined hr (by first | decide | omega) rfl (pa_cons (pv 0) (pa_cons (pv 7) pa_nil))))
  (pss_cons (ps_set (i := 9) sc_solved.nd rfl (Or.inl rfl) (pe_cN c_solved hr (by first | decide | omega) rfl (pa_cons (pv 8) (pa_cons (pe_cN c_lessened hr (by first | decide | omega) rfl (pa_cons (pv 1) (pa_cons (pv 4) (pa_cons (pv 3) pa_nil)))) (pa_cons (pv 2) pa_nil)))))
  (pss_cons (ps_if (pt_cmpR op_eq (pe_ix (qx_tup (K := K) rfl) (pv 9) pe_int (fun _ _ => rfl)) pe_str (nomark _))
  (pss_one (ps_ret (pv 9)))
  pss_nil)
  (pss_cons (ps_set (i := 10) sc_solved.nd rfl (Or.inr rfl) (pe_ix (qx_list (K := K) rfl) (qe_lc (x := "row") (j := 11) rfl sc_solved.nd (qi_list (K := K) rfl (pe_ix (qx_tup (K := K) rfl) (pv 9) pe_int (fun _ _ => rfl))) (blkOk_by (N := N_solved) (sc := defScope s_solved) (by decide +kernel)) (fun _ _ _ _ _ => pg_name (i := 11) sc_solved.nd rfl (Or.inl rfl)) (fun _ _ _ _ _ => by exact (pts_one (pt_cmpR (qo_in (K := K) rfl) (pe_ix (qx_tup (K := K) rfl) (pv 11) pe_int (fun _ _ => rfl)) (pe_ix (qx_list (K := K) rfl) (pv 8) (pe_un un_neg pe_int) (fun _ _ => rfl)) (by with_unfolding_all rfl)))) (fun _ _ _ _ _ => by exact (pe_ix (qx_tup (K := K) rfl) (pv 11) pe_int (fun _ _ => rfl)))) pe_int (fun _ _ => rfl)))
  (pss_one (ps_ret (pe_tup (pa_cons pe_str (pa_cons (pe_op op_cat (pe_ix (qx_tup (K := K) rfl) (pv 9) pe_int (fun _ _ => rfl)) (qe_lc (x := "place") (j := 5) rfl sc_solved.nd (qi_list (K := K) rfl (pv 7)) (blkOk_by (N := N_solved) (sc := defScope s_solved) (by decide +kernel)) (fun _ _ _ _ _ => pg_name (i := 5) sc_solved.nd rfl (Or.inl rfl)) (fun _ _ _ _ _ => by exact (pts_one (pt_cmpR (qo_nin (K := K) rfl) (pv 10) (pe_ix (qx_list (K := K) rfl) (pv 0) (pv 5) (fun _ _ => rfl)) (by with_unfolding_all rfl)))) (fun _ _ _ _ _ => by exact (qe_dget (pv 4) (pv 5) (fun _ _ => rfl) (by exact hu))))) pa_nil)))))))))))))), ?_⟩
  obtain ⟨n, gs, rows, ps, A1, q, us, vg, vr, rfl, hm, m12, FT, hl, eA, hAq, hq, hI, hg, hrw, hQ⟩ := hsp
  have P0 := FT.part
  have ln := Part.len P0
  have n2 := FT.n2
  have hm1 : 1 ≤ gs.length := P0.pos
  have hd0 := enterO (N := N_solved) (Ss := [.is aGrps gs, .is aRows rows, .own ((oL aPrice).at (.ref q)) ps]) (vs := [vg, vr, .ref q]) (j := 2) eA hAq hq rfl rfl (κ := (oL aPrice).at (.ref q)) (x := ps) ⟨rfl, q, us, rfl, rfl, hI⟩ (fun i s hs hi => by
    match i, hs with
    | 0, hs => cases hs; exact ⟨vg, rfl, vg, rfl, hg⟩
    | 1, hs => cases hs; exact ⟨vr, rfl, vr, rfl, hrw⟩
    | 2, _ => exact absurd rfl hi
    | i + 3, hs => simp at hs) rfl (Nat.le_of_ble_eq_true rfl)
  refine (?_ : Tr (cwO A1 H q 2) (entS N_solved _) _ _) _ _ hd0
  -- what is handed back
  have fin : ∀ {Γ : List Spec} {te : TE} {D : Ends} {x : List Int ⊕ List Rw3} {P : List Price}, D.rt = Q → EG (cwO A1 H q 2) Γ te aSol x → Γ[2]? = some (.own ((oL aPrice).at (.ref q)) (ps ++ P)) → SolvedOk n gs rows P x → P.length ≤ 12 * (m + 1) → xlen x ≤ 12 * (m + 1) → Tr (cwO A1 H q 2) Γ (tRet te) D := fun {Γ te D x P} eD h1 h2 h3 h4 h5 =>
    t_retJ (j := 2) (κ := (oL aPrice).at (.ref q)) (y := ps ++ P) h1 h2 fun w' v H' r => by
      rw [eD]
      have ew : w' = .ref q := by obtain ⟨G, M, _, _, _, _, _, _, g7⟩ := r.ex; exact g7.1
      subst ew
      exact hQ x P v H' h3 h4 h5 r
  clear hd0 hQ
  walk_at "nz"
  generalize hpf : (fun p => ((cheap gs rows p).getD (0, 0, 0) : Rw3)) = pf
  generalize hpr : (fun i => ((List.range' 1 i).filter fun p => decide (0 < (pf p).2.2)).map fun p => ((gp gs p, (pf p).2.2) : Price)) = pr
  have pr_len : ∀ i, (pr i).length ≤ i := fun i => by
    rw [← hpr]
    show (List.map _ _).length ≤ i
    rw [List.length_map]
    exact Nat.le_trans (List.length_filter_le _ _) (by rw [List.length_range']; exact Nat.le_refl _)
  have pr_succ : ∀ i, pr (i + 1) = pr i ++ (if 0 < (pf (1 + i)).2.2 then [(gp gs (1 + i), (pf (1 + i)).2.2)] else []) := fun i => by
    rw [← hpr]
    show List.map _ (List.filter _ (List.range' 1 (i + 1))) = List.map _ _ ++ _
    rw [List.range'_1_concat, List.filter_append, List.map_append]
    congr 1
    by_cases c : 0 < (pf (1 + i)).2.2
    · rw [if_pos c, List.filter_cons_of_pos (by simpa using c)]; rfl
    · rw [if_neg c, List.filter_cons_of_neg (by simpa using c)]; rfl
  have rng : ∀ r ∈ rows, (0 ≤ r.1 ∧ r.1 < n) ∧ (0 ≤ r.2.1 ∧ r.2.1 < n) := fun r hr => ⟨FT.rin.a0 r hr, by have := FT.rin.b0 r hr; omega⟩
  refine t_asg (τ := aPl) (x := plD gs gs.length) (EN.fz (κ := oDK aI) (en_call (n, gs) (by walk_at "ev") ⟨n2, P0⟩ rfl)) ?_
  refine t_new (κ := oDK aRow) (x := []) en_dK ?_
  refine t_forR2 (a := 1) (n := (gs.length : Int)) (fun i => [.is aGrps gs, .is aRows rows, .own ((oL aPrice).at (.ref q)) (ps ++ pr i), .is aPl (plD gs gs.length), .own (oDK aRow) (pkD pf i), .any, .any, .any, .any, .any, .any, .any]) (fun i => ∀ p, 1 ≤ p → p < 1 + i → Pick rows (gp gs p) (pf p)) (by walk_at "ev") (by walk_at "ev") (by omega)
    ⟨.inr rfl, .inr rfl, .inr (by rw [← hpr]; show _ = Spec.own _ (ps ++ []); rw [List.append_nil]), .inr rfl, .inr rfl, .inl rfl, .inl rfl, .inl rfl, .inl rfl, .inl rfl, .inl rfl, .inl rfl, trivial⟩ (fun p a b => by omega) (fun i hi ih => ?_) (fun ih => ?_)
  · have hi' : 1 + i < gs.length := by omega
    have ci := cheap_is P0 (1 + i) rows rng
    refine t_asg (eg_call (n, gs, rows, 1 + i) (ea_is (by walk_at "ev") (ea_is (by walk_at "ev") (ea_is (EG.eq (x' := ((1 + i : Nat) : Int)) (by walk_at "ev") (by omega)) ea_nil))) FT rfl) ?_
    refine t_if (b := (cheap gs rows (1 + i)).isNone) (et_test (eg_isT (τ := aRow) objT3 (by walk_at "ev"))) (fun e => ?_) (fun e => t_go ?_)
    · have ec : cheap gs rows (1 + i) = none := by simpa using e
      rw [ec] at ci
      refine fin (P := pr i) rfl (eg_mkL (x := gp gs (1 + i)) (eg_ixL (by walk_at "ev") (by walk_at "ev") (at_of (by omega) ?_))) rfl (lone_here P0 (by omega) hi' ci) (by have := pr_len i; omega) (Nat.zero_le _)
      rw [show (1 + (i : Int)).toNat = 1 + i by omega]
      exact gp_lt hi'
    · obtain ⟨r, ec⟩ : ∃ r, cheap gs rows (1 + i) = some r := by
        cases q : cheap gs rows (1 + i) with
        | none => rw [q] at e; cases e
        | some r => exact ⟨r, rfl⟩
      have ef : pf (1 + i) = r := by rw [← hpf]; show (cheap gs rows (1 + i)).getD _ = r; rw [ec]; rfl
      rw [ec] at ci
      have ci' : Pick rows (gp gs (1 + i)) r := ci
      have ih' : ∀ p, 1 ≤ p → p < 1 + (i + 1) → Pick rows (gp gs p) (pf p) := fun p a b => by
        by_cases c : p < 1 + i
        · exact ih p a c
        · have : p = 1 + i := by omega
          rw [this, ef]; exact ci'
      have ep : putI (pkD pf i) (1 + (i : Int)) r = pkD pf (i + 1) := by
        rw [pkD_succ, ef, pk_new]
        · rw [show 1 + (i : Int) = ((1 + i : Nat) : Int) by omega]
        · intro e he q
          obtain ⟨p, hp, rfl⟩ := List.mem_map.mp he
          have := List.mem_range'_1.mp hp
          have q' : (p : Int) = 1 + (i : Int) := q
          omega
      refine t_dputK (k := 1 + (i : Int)) (x := r) rfl (EG.unSome (EG.eq (x' := some r) (by walk_at "ev") ec)) (by walk_at "ev") (by rw [pkD_len]; omega) ?_
      rw [ep]
      refine t_one (t_if (b := decide (0 < r.2.2)) (et_test (eg_Ib (g := fun i j => decide (j < i)) (eg_t2 (EG.unSome (EG.eq (x' := some r) (by walk_at "ev") ec))) eg_int)) (fun e2 => ?_) (fun e2 => t_go ?_))
      · have c : 0 < r.2.2 := of_decide_eq_true e2
        refine t_one (t_dropM (em_appA (x := (gp gs (1 + i), r.2.2)) rfl (eg_tup2 (EN.fz (κ := oL aI) (en_list (EG.el (eg_ixL (by walk_at "ev") (by walk_at "ev") (at_of (by omega) ?_))))) (eg_t2 (EG.unSome (EG.eq (x' := some r) (by walk_at "ev") ec)))) ?_) ?_)
        · rw [show (1 + (i : Int)).toNat = 1 + i by omega]
          exact gp_lt hi'
        · rw [List.length_append]; have := pr_len i; omega
        · refine t_end ⟨.inr rfl, .inr rfl, .inr ?_, .inr rfl, .inr rfl, .inl rfl, .inl rfl, .inl rfl, .inl rfl, .inl rfl, .inl rfl, .inl rfl, trivial⟩ ih'
          rw [pr_succ, ef, if_pos c, List.append_assoc]
      · have c : ¬ 0 < r.2.2 := of_decide_eq_false e2
        refine t_end ⟨.inr rfl, .inr rfl, .inr ?_, .inr rfl, .inr rfl, .inl rfl, .inl rfl, .inl rfl, .inl rfl, .inl rfl, .inl rfl, .inl rfl, trivial⟩ ih'
        rw [pr_succ, ef, if_neg c, List.append_nil]
  · have em : ((gs.length : Int) - 1).toNat = gs.length - 1 := by omega
    rw [em] at ih ⊢
    have L : Level n gs rows pf := ⟨P0, FT.rin, fun p a b => ih p a (by omega)⟩
    have epr : pr (gs.length - 1) = price0 gs pf := by rw [← hpr]; rfl
    have lpr := pr_len (gs.length - 1)
    refine t_asgP (ep_ring (i := 4) rfl (by walk_at "ev") n2 L) fun x hx => ?_
    refine t_if (b := x.isNone) (et_test (eg_isT (τ := aGrp) objL (by walk_at "ev"))) (fun e => ?_) (fun e => t_go ?_)
    · have ex : x = none := by simpa using e
      subst ex
      have ev : (pkD pf (gs.length - 1)).map (·.2) = (List.range' 1 (gs.length - 1)).map pf := by
        unfold pkD; rw [List.map_map]; rfl
      refine fin (P := pr (gs.length - 1)) rfl (eg_mkF (x := (List.range' 1 (gs.length - 1)).map pf) (ev ▸ EN.fz (κ := oL aRow) (en_vals rfl (pkD_nd _ _) (by rw [pkD_len]; omega) (by decide) (Nat.le_of_ble_eq_true rfl)))) rfl ?_ (by omega) ?_
      · rw [epr]; exact L.base hx
      · show (List.map _ _).length ≤ _
        rw [List.length_map, List.length_range']; omega
    obtain ⟨l, ex⟩ : ∃ l, x = some l := by
      cases x with
      | none => cases e
      | some l => exact ⟨l, rfl⟩
    subst ex
    obtain ⟨ring, rfl, R⟩ := hx
    have Wh := whole_is P0 R.nd fun p hp => (R.rg p hp).2
    have FT' := fit_wide FT L R
    have lw := wid_shorter (W := wholeL gs ring) R fun p hp => HG.Level.moves L (R.rg p hp).1 (R.rg p hp).2
    refine t_asg (τ := aGrps) (x := wid gs ring (wholeL gs ring)) (EN.fz (κ := oL aGrp) (en_call (n, gs, ring) (ea_is (by walk_at "ev") (ea_is (EG.unSome (by walk_at "ev")) ea_nil)) ⟨n2, P0, R.nd, fun p hp => (R.rg p hp).2⟩ rfl)) ?_
    refine t_fz (κ := oDK aRow) 4 rfl (by show ¬ (4 = 2); decide) ?_
    refine t_asgMP (emp_solved (n := n) (gs := wid gs ring (wholeL gs ring)) (rows := les gs pf rows) (i := 2) rfl (by walk_at "ev") (EN.fz (κ := oL aRow) (en_call (n, gs, rows, pf) (ea_is (by walk_at "ev") (ea_is (τ := aDK aRow) (eg_var rfl) (ea_is (by walk_at "ev") ea_nil))) FT rfl)) (by omega) (by omega) FT' (by rw [List.length_append]; omega)) fun x Δ ⟨P2, sx, lp, lx, eΔ⟩ => ?_
    subst eΔ
    have lP : (pr (gs.length - 1) ++ P2).length ≤ 12 * (m + 1) := by rw [List.length_append]; omega
    refine t_if (b := decide (tagS x = "lonely")) (et_test (eg_eqS (eg_tag0 (by walk_at "ev")) eg_str)) (fun e => ?_) (fun e => t_go ?_)
    · cases x with
      | inr F => exact absurd (of_decide_eq_true e) tag_ne
      | inl g =>
        refine fin (P := pr (gs.length - 1) ++ P2) rfl (eg_var rfl) (by rw [← List.append_assoc]; rfl) ?_ lP (Nat.zero_le _)
        exact L.lone Wh sx
    cases x with
    | inl g => exact absurd rfl (of_decide_eq_false e)
    | inr F =>
      have HF : Fam n (wid gs ring (wholeL gs ring)) (les gs pf rows) F P2 := sx
      have Pw := FT'.part
      have hlast := wid_last (gs := gs) (ring := ring) (W := wholeL gs ring)
      have hlast' : (wid gs ring (wholeL gs ring))[(wid gs ring (wholeL gs ring)).length - 1]? = some (wholeL gs ring) := by
        rw [wid_len, Nat.add_sub_cancel]; exact hlast
      have lF : F.length ≤ 12 * m := lx
      have c1 : F.countP (fun f => decide (f.2.1 ∈ wholeL gs ring)) = 1 := by
        have h := HF.cnt ((List.range gs.length).filter fun p => !ring.contains p).length (by rw [wid_len]; omega)
        rw [gp_get hlast] at h
        rw [h, if_neg]
        intro z
        rw [z] at hlast
        have r0 := Pw.root
        rw [hlast] at r0
        have h0 : (0 : Int) ∈ wholeL gs ring := by rw [Option.some.inj r0]; exact List.mem_singleton.mpr rfl
        obtain ⟨p, hp, hp'⟩ := (Wh.mem 0).mp h0
        have := P0.pl_eq hp'
        rw [P0.pl0] at this
        have := (R.rg p hp).1
        omega
      obtain ⟨f0, hf0, hf0'⟩ := count_pos_of c1
      have hf0W : f0.2.1 ∈ wholeL gs ring := by simpa using hf0'
      have hlist : ∃ rest, (F.filter fun r => decide (r.2.1 ∈ wholeL gs ring)).map (fun r => r.2.1) = f0.2.1 :: rest := by
        have hm : f0 ∈ F.filter fun r => decide (r.2.1 ∈ wholeL gs ring) := List.mem_filter.mpr ⟨hf0, hf0'⟩
        cases hF : F.filter fun r => decide (r.2.1 ∈ wholeL gs ring) with
        | nil => rw [hF] at hm; cases hm
        | cons a r =>
          have ha : a ∈ F.filter fun r => decide (r.2.1 ∈ wholeL gs ring) := by rw [hF]; exact List.mem_cons_self ..
          have := List.mem_filter.mp ha
          have e1 : a = f0 := count_uniq (f := fun x => x) c1 a this.1 f0 hf0 (by simpa using this.2) (by simpa using hf0')
          exact ⟨r.map fun r => r.2.1, by rw [List.map_cons, e1]⟩
      obtain ⟨rest, hrest⟩ := hlist
      refine t_asg (x := f0.2.1) (τ := aI) (eg_ixL (l := (F.filter fun r => decide (r.2.1 ∈ wholeL gs ring)).map fun r => r.2.1) (EX.el (EN.ex (en_lc (τ := aI) (θ := aRow) (fun r => decide (r.2.1 ∈ wholeL gs ring)) (fun r => r.2.1) (EG.el (eg_tagF (by walk_at "ev"))) (by omega) (fun r hr => ?_) (fun r hr _ => by walk_at "ev")))) eg_int (at_of (by omega) (by rw [hrest]; rfl))) ?_
      · exact et_test (eg_in (by walk_at "ev") (EG.el (eg_ixL (i := -1) (by walk_at "ev") (eg_un (g := fun i => -i) eg_int) (atI_last hlast'))))
      have eR : ((ringI ring).filter fun p => !decide (f0.2.1 ∈ gp gs p.toNat)).map (fun p => pf p.toNat) = ringRows gs pf ring f0.2.1 := by
        unfold ringI ringRows
        rw [List.filter_map, List.map_map]
        rfl
      have lr : ring.length ≤ gs.length := by
        have := R.nd.length_le_of_subset (l₂ := List.range gs.length) fun p hp => List.mem_range.mpr (R.rg p hp).2
        rwa [List.length_range] at this
      have lrr : (ringRows gs pf ring f0.2.1).length ≤ 12 := by
        unfold ringRows
        rw [List.length_map]
        exact Nat.le_trans (List.length_filter_le _ _) (by omega)
      refine fin (P := pr (gs.length - 1) ++ P2) (x := .inr (F ++ ringRows gs pf ring f0.2.1)) rfl (eg_mkF (EN.fz (κ := oL aRow) (en_cat (EG.ex (eg_tagF (by walk_at "ev"))) (EN.ex (eR ▸ en_lc (τ := aRow) (θ := aI) (fun p => !decide (f0.2.1 ∈ gp gs p.toNat)) (fun p => pf p.toNat) (EG.el (EG.unSome (by walk_at "ev"))) (by unfold ringI; rw [List.length_map]; omega) (fun pI hp => ?_) (fun pI hp _ => ?_))) (by omega)))) (by rw [← List.append_assoc]; rfl) ?_ lP ?_
      · obtain ⟨p, hp', rfl⟩ := List.mem_map.mp hp
        exact et_test (eg_nin (by walk_at "ev") (EG.el (eg_ixL (by walk_at "ev") (by walk_at "ev") (at_of (by omega) (by rw [Int.toNat_natCast]; exact gp_lt (R.rg p hp').2)))))
      · obtain ⟨p, hp', rfl⟩ := List.mem_map.mp hp
        rw [Int.toNat_natCast]
        exact eg_dgetK (τ := aRow) (EG.edk (eg_var rfl)) (by walk_at "ev") (pkD_lk pf (R.rg p hp').1 (by have := (R.rg p hp').2; omega))
      · rw [epr]
        exact L.step R Wh HF hf0 hf0W
      · show (F ++ _).length ≤ _
        rw [List.length_append]; omega
theorem ok_solved {f : Addr} {fd : FuncData} (F : FunX K "solved" "solved" s_solved f fd) (T : Txt K mg) (c_places_of : Cal P w K mg base 1 "places_of" spPlaces) (c_cheapest : Cal P w K mg base 1 "cheapest" spCheap) (c_ring_of : Cal P w K mg base 1 "ring_of" (spRing K))
    (c_joined : Cal P w K mg base 1 "joined" spJoined) (c_lessened : Cal P w K mg base 1 "lessened" spLessened)
    (hc : ∀ k sp, FnOk P w K mg base (L2.CX P w) k f fd P_solved sp → Cal P w K mg base k "solved" sp) : ∀ m, FnOk P w K mg base (L2.CX P w) (2 + m) f fd P_solved (spSolved m)
  | 0 => ⟨fun vs H Q E ⟨n, gs, rows, ps, A, q, us, vg, vr, _, hm, _, FT, _⟩ => by have := FT.part.pos; omega, fun A outer s H args us vs Q E hr he hb hv ⟨n, gs, rows, ps, A1, q, us1, vg, vr, _, hm, _, FT, _⟩ => by have := FT.part.pos; omega⟩
  | m + 1 => solved_step F T c_places_of c_cheapest c_ring_of c_joined c_lessened (hc _ _ (ok_solved F T c_places_of c_cheapest c_ring_of c_joined c_lessened hc m))

end
end
section
local macro_rules | `(tactic| walk_at "ev") => `(tactic| first
  | ((with_reducible apply eg_var); rfl)
  | with_reducible exact eg_int
  | with_reducible exact eg_bl
  | with_reducible exact eg_str
  | with_reducible exact eg_non
  | ((with_reducible apply eg_Ii); walk_at "ev"; walk_at "ev")
  | ((with_reducible apply eg_Ib); walk_at "ev"; walk_at "ev")
  | ((with_reducible apply eg_Ic); walk_at "ev"; walk_at "ev"; walk_at "side")
  | ((with_reducible apply eg_un); walk_at "ev")
  | ((with_reducible apply eg_chain); walk_at "ev"; walk_at "ev"; walk_at "ev")
  | ((with_reducible apply eg_eqI); walk_at "ev"; walk_at "ev")
  | ((with_reducible apply eg_neI); walk_at "ev"; walk_at "ev")
  | ((with_reducible apply eg_eqS); walk_at "ev"; walk_at "ev")
  | ((with_reducible apply eg_neS); walk_at "ev"; walk_at "ev")
  | ((with_reducible apply eg_eqO); walk_at "ev"; walk_at "ev")
  | ((with_reducible apply eg_neO); walk_at "ev"; walk_at "ev")
  | ((with_reducible apply eg_isO); walk_at "ev")
  | ((with_reducible apply eg_notO); walk_at "ev")
  | ((with_reducible apply eg_isT objT3); walk_at "ev")
  | ((with_reducible apply eg_isT objL); walk_at "ev")
  | ((with_reducible apply eg_p0); walk_at "ev")
  | ((with_reducible apply eg_p1); walk_at "ev")
  | ((with_reducible apply eg_t0); walk_at "ev")
  | ((with_reducible apply eg_t1); walk_at "ev")
  | ((with_reducible apply eg_t2); walk_at "ev")
  | ((with_reducible apply eg_len (τ := aRow)); walk_at "ev")
  | ((with_reducible apply eg_len); walk_at "ev")
  | ((with_reducible apply eg_tup2); walk_at "ev"; walk_at "ev")
  | ((with_reducible apply eg_tup3); walk_at "ev"; walk_at "ev"; walk_at "ev")
  | ((with_reducible apply eg_in); walk_at "ev"; walk_at "ev")
  | ((with_reducible apply eg_nin); walk_at "ev"; walk_at "ev")
  | ((with_reducible apply eg_sum); walk_at "ev")
  | ((with_reducible apply eg_all); walk_at "ev")
  | ((with_reducible apply eg_max2); walk_at "ev"; walk_at "ev")
  | ((with_reducible apply eg_get1); walk_at "ev"; walk_at "ev")
  | ((with_reducible apply eg_din); walk_at "ev"; walk_at "ev")
  | ((with_reducible apply eg_dnin); walk_at "ev"; walk_at "ev")
  | ((with_reducible apply eg_lenT); walk_at "ev")
  | ((with_reducible apply eg_not); walk_at "ev")
  | ((with_reducible apply eg_and'); walk_at "ev"; walk_at "ev")
  | ((with_reducible apply eg_or'); walk_at "ev"; walk_at "ev")
  | ((with_reducible apply et_not); walk_at "ev")
  | ((with_reducible apply et_and'); walk_at "ev"; walk_at "ev")
  | ((with_reducible apply et_or'); walk_at "ev"; walk_at "ev")
  | ((with_reducible apply et_test); walk_at "ev")
  | ((with_reducible apply et_B); walk_at "ev")
  | with_reducible exact et_yes
  | ((with_reducible apply ekp_tup); walk_at "ev"; walk_at "ev")
  | ((with_reducible apply ekp_of); walk_at "ev")
  | ((with_reducible apply edt_own); rfl)
  | ((with_reducible apply EG.edt); walk_at "ev")
  | ((with_reducible apply edk_own); rfl)
  | ((with_reducible apply EG.edk); walk_at "ev")
  | ((with_reducible apply ex_own); rfl)
  | ((with_reducible apply EX.el); (with_reducible apply ex_own); rfl)
  | ((with_reducible apply EG.el); walk_at "ev")
  | ((with_reducible apply EG.scr); walk_at "ev")
  | ((with_reducible apply EG.ef); walk_at "ev")
  | ((with_reducible apply EG.ex); walk_at "ev")
  | ((with_reducible apply EX.el); (with_reducible apply EN.ex); walk_at "ev")
  | ((with_reducible apply EN.ex); walk_at "ev")
  | ((with_reducible apply eb_see); rfl)
  | ((with_reducible apply eb_own); rfl)
  | ((with_reducible apply eb_of); walk_at "ev")
  | with_reducible exact ea_nil
  | ((with_reducible apply ea_is); walk_at "ev"; walk_at "ev")
  | ((with_reducible apply ea_see); walk_at "ev"; walk_at "ev")
  | with_reducible exact eas_nil
  | ((with_reducible apply eas_cons); walk_at "ev"; walk_at "ev")
  | ((with_reducible apply en_lst); walk_at "ev"; exact Nat.le_of_ble_eq_true rfl)
  | ((with_reducible apply en_list); walk_at "ev")
  | with_reducible exact en_dK
  | with_reducible exact en_dT
  | ((with_reducible apply eg_size); walk_at "ev"; exact Txt.cl (by assumption); exact Txt.nS (by assumption))
  | ((with_reducible apply edt_costs); walk_at "ev"; exact Txt.cl (by assumption); exact Txt.nC (by assumption)))
local macro_rules | `(tactic| walk_at "side") => `(tactic| first
  | exact ⟨by decide, by decide⟩
  | exact .inr ⟨by decide, by decide⟩
  | exact .inl ⟨by decide, by decide⟩
  | decide
  | omega
  | (show (0 : Int) < _; omega))
local macro_rules | `(tactic| walk_at "nz") => `(tactic| (try dsimp only [entS] at *))
local macro_rules | `(tactic| walk_at "ev") => `(tactic| first
  | ((with_reducible apply eg_many); walk_at "ev")
  | ((with_reducible apply en_hear); walk_at "ev"; assumption))
section
variable {P : Program} {w : World} {K : PySem.W.Frag} {mg : Str → Option Value} {base : Heap}
/-! ### judging a book -/
abbrev aPrices : Ty (List Price) := aL aPrice
def aJud : Ty (List Int ⊕ (Fml × List Price)) := ⟨fun x F v => match x with
  | .inl g => ∃ p w, v = .ref p ∧ F p = some (.tup [.str "lonely", w]) ∧ aGrp.R g F w
  | .inr l => ∃ p w z, v = .ref p ∧ F p = some (.tup [.str "family", w, z]) ∧ aFam.R l.1 F w ∧ aPrices.R l.2 F z, fun {x F F' v} h e => match x, h with
  | .inl g, ⟨p, w, h1, h2, h3⟩ => ⟨p, w, h1, e _ _ h2, aGrp.up h3 e⟩
  | .inr l, ⟨p, w, z, h1, h2, h3, h4⟩ => ⟨p, w, z, h1, e _ _ h2, aFam.up h3 e, aPrices.up h4 e⟩⟩
section
variable {c : Cw} {Γ : List Spec} {te : TE}
theorem eg_jud0 {x : List Int ⊕ (Fml × List Price)} (h : EG c Γ te aJud x) : EG c Γ (tOp (rIxT K) te (tC (.int 0))) aS (tagS x) := fun σ F Ms H w Q q => h σ F Ms H w _ fun v F1 H1 s1 r => by
  cases x with
  | inl g => obtain ⟨p, u, e, h1, h2⟩ := r; exact ⟨p, _, 0, _, e, rfl, .inl (.inl (s1.fh _ _ h1)), rfl, q _ F1 H1 s1 rfl⟩
  | inr g => obtain ⟨p, u, z, e, h1, h2⟩ := r; exact ⟨p, _, 0, _, e, rfl, .inl (.inl (s1.fh _ _ h1)), rfl, q _ F1 H1 s1 rfl⟩
theorem eg_judL {g : List Int} (h : EG c Γ te aJud (.inl g)) : EG c Γ (tOp (rIxT K) te (tC (.int 1))) aGrp g := fun σ F Ms H w Q q => h σ F Ms H w _ fun v F1 H1 s1 r => by
  obtain ⟨p, u, e, h1, h2⟩ := r; exact ⟨p, _, 1, u, e, rfl, .inl (.inl (s1.fh _ _ h1)), rfl, q _ F1 H1 s1 h2⟩
theorem eg_judF {l : Fml × List Price} (h : EG c Γ te aJud (.inr l)) : EG c Γ (tOp (rIxT K) te (tC (.int 1))) aFam l.1 := fun σ F Ms H w Q q => h σ F Ms H w _ fun v F1 H1 s1 r => by
  obtain ⟨p, u, z, e, h1, h2, h3⟩ := r; exact ⟨p, _, 1, u, e, rfl, .inl (.inl (s1.fh _ _ h1)), rfl, q _ F1 H1 s1 h2⟩
theorem eg_judP {l : Fml × List Price} (h : EG c Γ te aJud (.inr l)) : EG c Γ (tOp (rIxT K) te (tC (.int 2))) aPrices l.2 := fun σ F Ms H w Q q => h σ F Ms H w _ fun v F1 H1 s1 r => by
  obtain ⟨p, u, z, e, h1, h2, h3⟩ := r; exact ⟨p, _, 2, z, e, rfl, .inl (.inl (s1.fh _ _ h1)), rfl, q _ F1 H1 s1 h3⟩
end
/-- a lonely group, or a family and prices that show it -/
def JudOk (n : Int) (rows : List Rw3) : List Int ⊕ (Fml × List Price) → Prop
  | .inl g => Grp n g ∧ ∀ r ∈ rows, ent r.1 r.2.1 g = false
  | .inr l => Judged n rows l.1 l.2 ∧ l.2.length ≤ 144
abbrev spJudged (K : PySem.W.Frag) : Sp := Pm (fun b : Bk => [.see (aBk (CB K)) b]) (fun b => .retP aJud (JudOk b.1 (rowsOf b.2))) fun b => GoodB b.1 b.2
abbrev s_judged : Stmt := top 23
abbrev N_judged : List Str := ["book", "prices", "found", "family", "row", "teller"]
abbrev P_judged : List Str := ["book"]
theorem sc_judged : FnScope N_judged P_judged (defScope s_judged) := ⟨rfl, rfl, rfl, by decide +kernel, rfl, by decide +kernel, by decide +kernel⟩

theorem ok_judged {f : Addr} {fd : FuncData} (F : FunX K "judged" "judged" s_judged f fd) (T : Txt K mg) (c_B_many : Met P w K mg base 1 (CB K) "many" (spMany K)) (c_B_hearings : Met P w K mg base 1 (CB K) "hearings" (spHear K)) (c_solved : Cal P w K mg base 14 "solved" (spSolved 12)) :
    FnOk P w K mg base (L2.CX P w) 15 f fd P_judged (spJudged K) := by
  refine okP F sc_judged (fun _ => rfl) fun cdv A outer s H Q E ⟨n, kvs⟩ A0 hr G hS => ?_
  have hu := hu_of hr
  refine ⟨_, (pss_cons (ps_set (i := 1) sc_judged.nd rfl (Or.inl rfl) (pe_lst pa_nil))
  (pss_cons (ps_set (i := 2) sc_judged.nd rfl (Or.inl rfl) (pe_cN c_solved hr (by first | decide | omega) rfl (pa_cons (qe_lc (x := "teller") (j := 5) (tt := tYes) rfl sc_judged.nd (pi_range1 rfl T.b_range (pa_cons (pe_mN0 c_B_many hr (by first | decide | omega) (pv 0)) pa_nil)) (blkOk_by (N := N_judged) (sc := defScope s_judged) (by decide +kernel)) (fun _ _ _ _ _ => pg_name (i := 5) sc_judged.nd rfl (Or.inl rfl)) (fun _ _ _ _ _ => by exact pts_nil) (fun _ _ _ _ _ => by exact (pe_lst (pa_cons (pv 5) pa_nil)))) (pa_cons (pe_mN0 c_B_hearings hr (by first | decide | omega) (pv 0)) (pa_cons (pv 1) pa_nil)))))
  (pss_cons (ps_if (pt_cmpR op_eq (pe_ix (qx_tup (K := K) rfl) (pv 2) pe_int (fun _ _ => rfl)) pe_str (nomark _))
  (pss_one (ps_ret (pe_tup (pa_cons pe_str (pa_cons (pe_callTy (qb_list (K := K) rfl) (by rfl) T.b_list (by decide +kernel) (pa_cons (pe_ix (qx_tup (K := K) rfl) (pv 2) pe_int (fun _ _ => rfl)) pa_nil)) pa_nil)))))
  pss_nil)
  (pss_cons (qs_setLc (i := 3) (x := "teller") (j := 5) (tt := tYes) rfl sc_judged.nd rfl rfl (sw_true rfl rfl rfl (by decide +kernel)) (pi_range1 rfl T.b_range (pa_cons (pe_mN0 c_B_many hr (by first | decide | omega) (pv 0)) pa_nil)) (blkOk_by (N := N_judged) (sc := defScope s_judged) (by decide +kernel)) (fun _ _ _ _ _ => pg_name (i := 5) sc_judged.nd rfl (Or.inl rfl)) (fun _ _ _ _ _ => by exact pts_nil) (fun _ _ _ _ _ => by exact pe_non))
  (pss_cons (ps_for PassesOwn.never rfl (qi_list (K := K) rfl (pe_ix (qx_tup (K := K) rfl) (pv 2) pe_int (fun _ _ => rfl))) (pg_name (i := 4) sc_judged.nd rfl (Or.inl rfl))
  (pss_one (ps_asg (pe_ix (qx_tup (K := K) rfl) (pv 4) pe_int (fun _ _ => rfl)) (pg_sub (pv 3) (pe_ix (qx_tup (K := K) rfl) (pv 4) pe_int (fun _ _ => rfl)) set_list))))
  (pss_one (ps_ret (pe_tup (pa_cons pe_str (pa_cons (pv 3) (pa_cons (pv 1) pa_nil))))))))))), ?_⟩
  have hS' : ∀ x v H', JudOk n (rowsOf kvs) x → RetIs (cw0 A0 H) aJud x v H' → Q v H' := hS
  clear hS
  walk_at "nz"
  have n1 := G.n1
  have n2 := G.n2
  have FT : Fit n (singles n) (rowsOf kvs) := ⟨n2, part_singles n1, G.rin, by rw [rowsOf_len]; have := G.small; omega⟩
  refine t_new (κ := oL aPrice) (x := []) (by walk_at "ev") ?_
  refine t_at (κ := oL aPrice) (i := 1) rfl fun v0 => ?_
  refine t_asgMP (emp_solved (n := n) (gs := singles n) (rows := rowsOf kvs) (ps := []) (i := 1) rfl (EN.fz (κ := oL aGrp) (en_lcR0 (τ := aGrp) (n := n) (fun i : Nat => [(i : Int)]) (by walk_at "ev") (by omega) (fun i hi => EN.fz (κ := oL aI) (by walk_at "ev")))) (EN.fz (κ := oL aRow) (by walk_at "ev")) (by rw [singles_len]; omega) (by omega) FT (by show 0 + 12 * 12 ≤ 1000; decide)) fun x Δ ⟨P1, sx, lp, lx, eΔ⟩ => ?_
  subst eΔ
  rw [List.nil_append]
  refine t_if (b := decide (tagS x = "lonely")) (et_test (eg_eqS (eg_tag0 (by walk_at "ev")) eg_str)) (fun e => ?_) (fun e => t_go ?_)
  · cases x with
    | inr F => exact absurd (of_decide_eq_true e) tag_ne
    | inl g =>
      have L : Lone n (singles n) (rowsOf kvs) g := sx
      refine t_ret (τ := aJud) (x := .inl g) ((eg_mkL (τ := aGrp) (θ := aGrp) (x := g) (EN.fz (κ := oL aI) (en_list (EG.el (eg_tagL (by walk_at "ev")))))).conv fun F v r => r) (hS' _ · · ⟨L.grp, L.no⟩)
  cases x with
  | inl g => exact absurd rfl (of_decide_eq_false e)
  | inr F =>
    have HF : Fam n (singles n) (rowsOf kvs) F P1 := sx
    have J := judged_of n1 G.rin HF
    have rF : ∀ f ∈ F, 0 ≤ f.2.1 ∧ f.2.1 < n := fun f hf => by
      obtain ⟨_, c, h⟩ := HF.sub f hf
      have r : 1 ≤ f.2.1 ∧ f.2.1 < n := G.rin.b0 (f.1, f.2.1, c) h
      omega
    have erep : (List.range n.toNat).map (fun _ : Nat => (none : Option Int)) = List.replicate n.toNat none := by
      rw [List.map_const', List.length_range]
    refine t_new (κ := oL aO) (erep ▸ en_lcR0 (τ := aO) (n := n) (fun _ : Nat => (none : Option Int)) (by walk_at "ev") (by omega) (fun i hi => EG.optN eg_non)) ?_
    refine t_forL (l := F) (fun i => [.see (aBk (CB K)) (n, kvs), .own ((oL aPrice).at v0) P1, .is aSol (.inr F), .own (oL aO) (famOf n (F.take i)), .any, .any]) (fun _ => True) (EG.ef (eg_tagF (by walk_at "ev"))) ⟨.inr rfl, .inr rfl, .inr rfl, .inr rfl, .inl rfl, .inl rfl, trivial⟩ trivial (fun i r hr' _ d hd => ?_) (fun _ => ?_)
    · have rr := rF r (List.mem_of_getElem? hr')
      have el : (famOf n (F.take i)).length = n.toNat := by
        unfold famOf
        rw [fold_len, List.length_replicate]
      refine t_one (t_setL (x := some r.1) rfl (EG.opt (by walk_at "ev")) (by walk_at "ev") (ix_of rr.1 (by rw [el]; omega)) ?_)
      refine t_end ⟨.inr rfl, .inr rfl, .inr rfl, .inr ?_, .inl rfl, .inl rfl, trivial⟩ trivial
      unfold famOf
      rw [take_succ_of hr', List.foldl_append]; rfl
    · rw [List.take_length]
      refine t_fz (κ := oL aO) 3 rfl (fun h => h) ?_
      refine t_fz (κ := (oL aPrice).at v0) 1 rfl (fun h => h) ?_
      refine t_ret (τ := aJud) (x := .inr (famOf n F, P1)) ((eg_tup3 (τ := aS) (θ := aFam) (ρ := aPrices) eg_str (eg_var rfl) (eg_var rfl)).conv fun F v ⟨p, u, w', z, e, h, r1, r2, r3⟩ => ⟨p, w', z, e, by rw [h, show u = V.str "family" from r1], r2, r3⟩) (hS' _ · · ⟨J, by omega⟩)
theorem ep_judged {c : Cw} {Γ : List Spec} {ta : TE} {n : Int} {kvs : Kvs} {E : XK} (h : EB (CB K) c Γ ta (n, kvs)) (G : GoodB n kvs) : EP c Γ (tCall (spJudged K) [] E (tCons ta tNil)) aJud (JudOk n (rowsOf kvs)) := ep_call (n, kvs) (ea_see h ea_nil) G rfl

end
end
section
local macro_rules | `(tactic| walk_at "ev") => `(tactic| first
  | ((with_reducible apply eg_var); rfl)
  | with_reducible exact eg_int
  | with_reducible exact eg_bl
  | with_reducible exact eg_str
  | with_reducible exact eg_non
  | ((with_reducible apply eg_Ii); walk_at "ev"; walk_at "ev")
  | ((with_reducible apply eg_Ib); walk_at "ev"; walk_at "ev")
  | ((with_reducible apply eg_Ic); walk_at "ev"; walk_at "ev"; walk_at "side")
  | ((with_reducible apply eg_un); walk_at "ev")
  | ((with_reducible apply eg_chain); walk_at "ev"; walk_at "ev"; walk_at "ev")
  | ((with_reducible apply eg_eqI); walk_at "ev"; walk_at "ev")
  | ((with_reducible apply eg_neI); walk_at "ev"; walk_at "ev")
  | ((with_reducible apply eg_eqS); walk_at "ev"; walk_at "ev")
  | ((with_reducible apply eg_neS); walk_at "ev"; walk_at "ev")
  | ((with_reducible apply eg_eqO); walk_at "ev"; walk_at "ev")
  | ((with_reducible apply eg_neO); walk_at "ev"; walk_at "ev")
  | ((with_reducible apply eg_isO); walk_at "ev")
  | ((with_reducible apply eg_notO); walk_at "ev")
  | ((with_reducible apply eg_isT objT3); walk_at "ev")
  | ((with_reducible apply eg_isT objL); walk_at "ev")
  | ((with_reducible apply eg_p0); walk_at "ev")
  | ((with_reducible apply eg_p1); walk_at "ev")
  | ((with_reducible apply eg_t0); walk_at "ev")
  | ((with_reducible apply eg_t1); walk_at "ev")
  | ((with_reducible apply eg_t2); walk_at "ev")
  | ((with_reducible apply eg_len (τ := aRow)); walk_at "ev")
  | ((with_reducible apply eg_len); walk_at "ev")
  | ((with_reducible apply eg_tup2); walk_at "ev"; walk_at "ev")
  | ((with_reducible apply eg_tup3); walk_at "ev"; walk_at "ev"; walk_at "ev")
  | ((with_reducible apply eg_in); walk_at "ev"; walk_at "ev")
  | ((with_reducible apply eg_nin); walk_at "ev"; walk_at "ev")
  | ((with_reducible apply eg_sum); walk_at "ev")
  | ((with_reducible apply eg_all); walk_at "ev")
  | ((with_reducible apply eg_max2); walk_at "ev"; walk_at "ev")
  | ((with_reducible apply eg_get1); walk_at "ev"; walk_at "ev")
  | ((with_reducible apply eg_din); walk_at "ev"; walk_at "ev")
  | ((with_reducible apply eg_dnin); walk_at "ev"; walk_at "ev")
  | ((with_reducible apply eg_lenT); walk_at "ev")
  | ((with_reducible apply eg_not); walk_at "ev")
  | ((with_reducible apply eg_and'); walk_at "ev"; walk_at "ev")
  | ((with_reducible apply eg_or'); walk_at "ev"; walk_at "ev")
  | ((with_reducible apply et_not); walk_at "ev")
  | ((with_reducible apply et_and'); walk_at "ev"; walk_at "ev")
  | ((with_reducible apply et_or'); walk_at "ev"; walk_at "ev")
  | ((with_reducible apply et_test); walk_at "ev")
  | ((with_reducible apply et_B); walk_at "ev")
  | with_reducible exact et_yes
  | ((with_reducible apply ekp_tup); walk_at "ev"; walk_at "ev")
  | ((with_reducible apply ekp_of); walk_at "ev")
  | ((with_reducible apply edt_own); rfl)
  | ((with_reducible apply EG.edt); walk_at "ev")
  | ((with_reducible apply edk_own); rfl)
  | ((with_reducible apply EG.edk); walk_at "ev")
  | ((with_reducible apply ex_own); rfl)
  | ((with_reducible apply EX.el); (with_reducible apply ex_own); rfl)
  | ((with_reducible apply EG.el); walk_at "ev")
  | ((with_reducible apply EG.scr); walk_at "ev")
  | ((with_reducible apply EG.ef); walk_at "ev")
  | ((with_reducible apply EG.ex); walk_at "ev")
  | ((with_reducible apply EX.el); (with_reducible apply EN.ex); walk_at "ev")
  | ((with_reducible apply EN.ex); walk_at "ev")
  | ((with_reducible apply eb_see); rfl)
  | ((with_reducible apply eb_own); rfl)
  | ((with_reducible apply eb_of); walk_at "ev")
  | with_reducible exact ea_nil
  | ((with_reducible apply ea_is); walk_at "ev"; walk_at "ev")
  | ((with_reducible apply ea_see); walk_at "ev"; walk_at "ev")
  | with_reducible exact eas_nil
  | ((with_reducible apply eas_cons); walk_at "ev"; walk_at "ev")
  | ((with_reducible apply en_lst); walk_at "ev"; exact Nat.le_of_ble_eq_true rfl)
  | ((with_reducible apply en_list); walk_at "ev")
  | with_reducible exact en_dK
  | with_reducible exact en_dT
  | ((with_reducible apply eg_size); walk_at "ev"; exact Txt.cl (by assumption); exact Txt.nS (by assumption))
  | ((with_reducible apply edt_costs); walk_at "ev"; exact Txt.cl (by assumption); exact Txt.nC (by assumption)))
local macro_rules | `(tactic| walk_at "side") => `(tactic| first
  | exact ⟨by decide, by decide⟩
  | exact .inr ⟨by decide, by decide⟩
  | exact .inl ⟨by decide, by decide⟩
  | decide
  | omega
  | (show (0 : Int) < _; omega))
local macro_rules | `(tactic| walk_at "nz") => `(tactic| (try dsimp only [entS] at *))
local macro_rules | `(tactic| walk_at "ev") => `(tactic| first
  | ((with_reducible apply eg_many); walk_at "ev")
  | ((with_reducible apply en_hear); walk_at "ev"; assumption))
section
variable {P : Program} {w : World} {K : PySem.W.Frag} {mg : Str → Option Value} {base : Heap}
/-! ### least worth -/
theorem eg_worth {c : Cw} {Γ : List Spec} {ta tb : TE} {n : Int} {kvs : Kvs} {fam : Fml} {E : XK} (h : EB (CB K) c Γ ta (n, kvs)) (h2 : EG c Γ tb aFam fam) (G : GoodB n kvs) (I : IsFam n (rowsOf kvs) fam) :
    EG c Γ (tCall (spWorth K) [] E (tCons ta (tCons tb tNil))) aI (HW.worth n (rowsOf kvs) fam) := eg_call ((n, kvs), fam) (ea_see h (ea_is h2 ea_nil)) ⟨G, by have := I.len; have := G.n2; show fam.length ≤ 1000; omega, fun _ _ t a b => by
      obtain ⟨x, e, _⟩ := I.hear t a b
      rw [e]; intro q; cases q⟩ (worthOut_yes I)
noncomputable abbrev spLeast (K : PySem.W.Frag) : Sp := Pm (fun b : Bk => [.see (aBk (CB K)) b]) (fun b => .ret aO (leastV b.1 (rowsOf b.2))) fun b => GoodB b.1 b.2
abbrev s_least : Stmt := top 25
abbrev N_least : List Str := ["book", "found"]
abbrev P_least : List Str := ["book"]
theorem sc_least : FnScope N_least P_least (defScope s_least) := ⟨rfl, rfl, rfl, by decide +kernel, rfl, by decide +kernel, by decide +kernel⟩

theorem ok_least {f : Addr} {fd : FuncData} (F : FunX K "least" "least" s_least f fd) (T : Txt K mg) (c_judged : Cal P w K mg base 15 "judged" (spJudged K)) (c_worth : Cal P w K mg base 3 "worth" (spWorth K)) :
    FnOk P w K mg base (L2.CX P w) 16 f fd P_least (spLeast K) := by
  refine okP F sc_least (fun _ => rfl) fun cdv A outer s H Q E ⟨n, kvs⟩ A0 hr G hS => ?_
  have hu := hu_of hr
  refine ⟨_, (pss_cons (ps_set (i := 1) sc_least.nd rfl (Or.inl rfl) (pe_cN c_judged hr (by first | decide | omega) rfl (pa_cons (pv 0) pa_nil)))
  (pss_cons (ps_if (pt_cmpR op_eq (pe_ix (qx_tup (K := K) rfl) (pv 1) pe_int (fun _ _ => rfl)) pe_str (nomark _))
  (pss_one (ps_ret pe_non))
  pss_nil)
  (pss_one (ps_ret (pe_cN c_worth hr (by first | decide | omega) rfl (pa_cons (pv 0) (pa_cons (pe_ix (qx_tup (K := K) rfl) (pv 1) pe_int (fun _ _ => rfl)) pa_nil))))))), ?_⟩
  walk_at "nz"
  refine t_asgP (ep_judged (by walk_at "ev") G) fun x hx => ?_
  refine t_if (b := decide (tagS x = "lonely")) (et_test (eg_eqS (eg_jud0 (by walk_at "ev")) eg_str)) (fun e => ?_) (fun e => t_go ?_)
  · cases x with
    | inr l => exact absurd (of_decide_eq_true e) tag_ne
    | inl g =>
      rw [lone_least hx.1 hx.2] at hS
      exact t_ret (EG.optN eg_non) hS
  cases x with
  | inl g => exact absurd rfl (of_decide_eq_false e)
  | inr l =>
    have J : Judged n (rowsOf kvs) l.1 l.2 := hx.1
    rw [J.least G.rin] at hS
    exact t_ret (EG.opt (eg_worth (by walk_at "ev") (eg_judF (by walk_at "ev")) G J.isf)) hS
theorem eg_least {c : Cw} {Γ : List Spec} {ta : TE} {n : Int} {kvs : Kvs} {E : XK} (h : EB (CB K) c Γ ta (n, kvs)) (G : GoodB n kvs) : EG c Γ (tCall (spLeast K) [] E (tCons ta tNil)) aO (leastV n (rowsOf kvs)) := eg_call (n, kvs) (ea_see h ea_nil) G rfl
theorem only_succ {rows : List Rw3} {a b : Int} {i : Nat} {r : Rw3} (h : rows[i]? = some r) : onlyR (rows.take (i + 1)) a b = onlyR (rows.take i) a b ++ (if r.2.1 ≠ b ∨ r.1 = a then [r] else []) := by
  unfold onlyR
  rw [take_succ_of h, List.filter_append]
  congr 1
  by_cases c : r.2.1 ≠ b ∨ r.1 = a
  · rw [if_pos c, List.filter_cons_of_pos (by simpa using c)]; rfl
  · rw [if_neg c, List.filter_cons_of_neg (by simpa using c)]; rfl
theorem less_succ {rows : List Rw3} {a b : Int} {i : Nat} {r : Rw3} (h : rows[i]? = some r) : lessR (rows.take (i + 1)) a b = lessR (rows.take i) a b ++ (if ¬ (r.1 = a ∧ r.2.1 = b) then [r] else []) := by
  unfold lessR
  rw [take_succ_of h, List.filter_append]
  congr 1
  by_cases c : ¬ (r.1 = a ∧ r.2.1 = b)
  · rw [if_pos c, List.filter_cons_of_pos (p := fun r : Rw3 => decide (¬ (r.1 = a ∧ r.2.1 = b))) (decide_eq_true c)]; rfl
  · rw [if_neg c, List.filter_cons_of_neg (p := fun r : Rw3 => decide (¬ (r.1 = a ∧ r.2.1 = b))) (fun q => c (of_decide_eq_true q))]; rfl
theorem as_snoc {l : List Rw3} {r : Rw3} (u : Uq (l ++ [r])) : putP (asKvs l) (r.1, r.2.1) r.2.2 = asKvs (l ++ [r]) := by
  have h : (l ++ [r])[l.length]? = some r := by simp
  have := asKvs_take u h
  have e1 : (l ++ [r]).take l.length = l := by simp
  have e2 : (l ++ [r]).take (l.length + 1) = l ++ [r] := List.take_of_length_le (by simp)
  rw [e1, e2] at this
  exact this
abbrev spOnly (K : PySem.W.Frag) : Sp := Pm (fun a : Bk × Int × Int => [.see (aBk (CB K)) a.1, .is aI a.2.1, .is aI a.2.2]) (fun a => .new (oBk (CB K)) (a.1.1, asKvs (onlyR (rowsOf a.1.2) a.2.1 a.2.2))) fun a => GoodB a.1.1 a.1.2
abbrev s_only : Stmt := top 26
abbrev N_only : List Str := ["book", "one", "other", "made", "row"]
abbrev P_only : List Str := ["book", "one", "other"]
theorem sc_only : FnScope N_only P_only (defScope s_only) := ⟨rfl, rfl, rfl, by decide +kernel, rfl, by decide +kernel, by decide +kernel⟩

theorem ok_only {f : Addr} {fd : FuncData} (F : FunX K "only" "only" s_only f fd) (T : Txt K mg) (c_B_many : Met P w K mg base 1 (CB K) "many" (spMany K)) (c_B_hearings : Met P w K mg base 1 (CB K) "hearings" (spHear K))
    (c_Book : Mak P w K mg base 1 "Book" (CB K) (spInit K (CB K))) (c_B_let : Met P w K mg base 2 (CB K) "let" (spLet K (CB K))) : FnOk P w K mg base (L2.CX P w) 3 f fd P_only (spOnly K) := by
  refine okP F sc_only (fun _ => rfl) fun cdv A outer s H Q E ⟨⟨n, kvs⟩, a, b⟩ A0 hr G hS => ?_
  have hu := hu_of hr
  refine ⟨_, (pss_cons (ps_set (i := 3) sc_only.nd rfl (Or.inl rfl) (pe_mkC c_Book hr (by first | decide | omega) rfl (pa_cons (pe_mN0 c_B_many hr (by first | decide | omega) (pv 0)) pa_nil)))
  (pss_cons (ps_for PassesOwn.never rfl (qi_list (K := K) rfl (pe_mN0 c_B_hearings hr (by first | decide | omega) (pv 0))) (pg_name (i := 4) sc_only.nd rfl (Or.inl rfl))
  (pss_one (ps_if (PW.pt (pw_or (pt_cmpR op_ne (pe_ix (qx_tup (K := K) rfl) (pv 4) pe_int (fun _ _ => rfl)) (pv 2) (nomark _)) (pw_or1 (pt_cmpR op_eq (pe_ix (qx_tup (K := K) rfl) (pv 4) pe_int (fun _ _ => rfl)) (pv 1) (nomark _)))))
  (pss_one (ps_expr (pe_mN c_B_let hr (by first | decide | omega) (pv 3) (pa_cons (pe_ix (qx_tup (K := K) rfl) (pv 4) pe_int (fun _ _ => rfl)) (pa_cons (pe_ix (qx_tup (K := K) rfl) (pv 4) pe_int (fun _ _ => rfl)) (pa_cons (pe_ix (qx_tup (K := K) rfl) (pv 4) pe_int (fun _ _ => rfl)) pa_nil))))))
  pss_nil)))
  (pss_one (ps_ret (pv 3))))), ?_⟩
  walk_at "nz"
  have n1 := G.n1
  have n2 := G.n2
  have GR := G.rows
  have few := GR.few
  refine t_new (κ := oBk (CB K)) (x := (n, [])) (en_make (by walk_at "ev") ⟨n1, n2⟩) ?_
  refine t_forL (l := rowsOf kvs) (fun i => [.see (aBk (CB K)) (n, kvs), .is aI a, .is aI b, .own (oBk (CB K)) (n, asKvs (onlyR ((rowsOf kvs).take i) a b)), .any]) (fun _ => True) (EN.ef (by walk_at "ev")) ⟨.inr rfl, .inr rfl, .inr rfl, .inr rfl, .inl rfl, trivial⟩ trivial (fun i r hr' _ d hd => ?_) (fun _ => ?_)
  · have rg := GR.rg r (List.mem_of_getElem? hr')
    have step := only_succ (a := a) (b := b) hr'
    refine t_one (t_if (b := (!decide (r.2.1 = b)) || decide (r.1 = a)) (et_or' (by walk_at "ev") (by walk_at "ev")) (fun e => ?_) (fun e => t_go ?_))
    · have c : r.2.1 ≠ b ∨ r.1 = a := by simpa using e
      rw [if_pos c] at step
      have u : Uq (onlyR ((rowsOf kvs).take i) a b ++ [r]) := by
        rw [← step]
        exact lt2_uq ((GR.srt.sublist (List.take_sublist _ _)).sublist List.filter_sublist)
      refine t_one (t_dropM (em_let rfl (by walk_at "ev") (by walk_at "ev") (by walk_at "ev") (askX_ok rg.1 rg.2.1 rg.2.2) ?_) ?_)
      · rw [asKvs_len]
        have h1 : (onlyR ((rowsOf kvs).take i) a b).length ≤ ((rowsOf kvs).take i).length := List.length_filter_le _ _
        rw [List.length_take] at h1
        omega
      · refine t_end ⟨.inr rfl, .inr rfl, .inr rfl, .inr ?_, .inl rfl, trivial⟩ trivial
        rw [step, ← as_snoc u]
    · have c : ¬ (r.2.1 ≠ b ∨ r.1 = a) := by simpa using e
      refine t_end ⟨.inr rfl, .inr rfl, .inr rfl, .inr ?_, .inl rfl, trivial⟩ trivial
      rw [step, if_neg c, List.append_nil]
  · rw [List.take_length]
    exact t_retO rfl (fun h => h) hS
theorem en_only {c : Cw} {Γ : List Spec} {ta tb tc : TE} {n a b : Int} {kvs : Kvs} {E : XK} (h : EB (CB K) c Γ ta (n, kvs)) (h1 : EG c Γ tb aI a) (h2 : EG c Γ tc aI b) (G : GoodB n kvs) :
    EN c Γ (tCall (spOnly K) [] E (tCons ta (tCons tb (tCons tc tNil)))) (oBk (CB K)) (n, asKvs (onlyR (rowsOf kvs) a b)) := en_call ((n, kvs), a, b) (ea_see h (ea_is h1 (ea_is h2 ea_nil))) G rfl
abbrev spLess (K : PySem.W.Frag) : Sp := Pm (fun a : Bk × Int × Int => [.see (aBk (CB K)) a.1, .is aI a.2.1, .is aI a.2.2]) (fun a => .new (oBk (CB K)) (a.1.1, asKvs (lessR (rowsOf a.1.2) a.2.1 a.2.2))) fun a => GoodB a.1.1 a.1.2
abbrev s_less : Stmt := top 27
abbrev N_less : List Str := ["book", "one", "other", "made", "row"]
abbrev P_less : List Str := ["book", "one", "other"]
theorem sc_less : FnScope N_less P_less (defScope s_less) := ⟨rfl, rfl, rfl, by decide +kernel, rfl, by decide +kernel, by decide +kernel⟩

theorem ok_less {f : Addr} {fd : FuncData} (F : FunX K "less" "less" s_less f fd) (T : Txt K mg) (c_B_many : Met P w K mg base 1 (CB K) "many" (spMany K)) (c_B_hearings : Met P w K mg base 1 (CB K) "hearings" (spHear K))
    (c_Book : Mak P w K mg base 1 "Book" (CB K) (spInit K (CB K))) (c_B_let : Met P w K mg base 2 (CB K) "let" (spLet K (CB K))) : FnOk P w K mg base (L2.CX P w) 3 f fd P_less (spLess K) := by
  refine okP F sc_less (fun _ => rfl) fun cdv A outer s H Q E ⟨⟨n, kvs⟩, a, b⟩ A0 hr G hS => ?_
  have hu := hu_of hr
  refine ⟨_, (pss_cons (ps_set (i := 3) sc_less.nd rfl (Or.inl rfl) (pe_mkC c_Book hr (by first | decide | omega) rfl (pa_cons (pe_mN0 c_B_many hr (by first | decide | omega) (pv 0)) pa_nil)))
  (pss_cons (ps_for PassesOwn.never rfl (qi_list (K := K) rfl (pe_mN0 c_B_hearings hr (by first | decide | omega) (pv 0))) (pg_name (i := 4) sc_less.nd rfl (Or.inl rfl))
  (pss_one (ps_if (pt_cmpR (qo_neD (K := K) rfl (by exact hr.units)) (pe_tup (pa_cons (pe_ix (qx_tup (K := K) rfl) (pv 4) pe_int (fun _ _ => rfl)) (pa_cons (pe_ix (qx_tup (K := K) rfl) (pv 4) pe_int (fun _ _ => rfl)) pa_nil))) (pe_tup (pa_cons (pv 1) (pa_cons (pv 2) pa_nil))) (nomark _))
  (pss_one (ps_expr (pe_mN c_B_let hr (by first | decide | omega) (pv 3) (pa_cons (pe_ix (qx_tup (K := K) rfl) (pv 4) pe_int (fun _ _ => rfl)) (pa_cons (pe_ix (qx_tup (K := K) rfl) (pv 4) pe_int (fun _ _ => rfl)) (pa_cons (pe_ix (qx_tup (K := K) rfl) (pv 4) pe_int (fun _ _ => rfl)) pa_nil))))))
  pss_nil)))
  (pss_one (ps_ret (pv 3))))), ?_⟩
  walk_at "nz"
  have n1 := G.n1
  have n2 := G.n2
  have GR := G.rows
  have few := GR.few
  refine t_new (κ := oBk (CB K)) (x := (n, [])) (en_make (by walk_at "ev") ⟨n1, n2⟩) ?_
  refine t_forL (l := rowsOf kvs) (fun i => [.see (aBk (CB K)) (n, kvs), .is aI a, .is aI b, .own (oBk (CB K)) (n, asKvs (lessR ((rowsOf kvs).take i) a b)), .any]) (fun _ => True) (EN.ef (by walk_at "ev")) ⟨.inr rfl, .inr rfl, .inr rfl, .inr rfl, .inl rfl, trivial⟩ trivial (fun i r hr' _ d hd => ?_) (fun _ => ?_)
  · have rg := GR.rg r (List.mem_of_getElem? hr')
    have step := less_succ (a := a) (b := b) hr'
    refine t_one (t_if (b := !decide ((r.1, r.2.1) = (a, b))) (et_test (eg_neD dt_pair (by walk_at "ev") (by walk_at "ev"))) (fun e => ?_) (fun e => t_go ?_))
    · have c : ¬ (r.1 = a ∧ r.2.1 = b) := fun q => by rw [q.1, q.2] at e; simp at e
      rw [if_pos c] at step
      have u : Uq (lessR ((rowsOf kvs).take i) a b ++ [r]) := by
        rw [← step]
        exact lt2_uq ((GR.srt.sublist (List.take_sublist _ _)).sublist List.filter_sublist)
      refine t_one (t_dropM (em_let rfl (by walk_at "ev") (by walk_at "ev") (by walk_at "ev") (askX_ok rg.1 rg.2.1 rg.2.2) ?_) ?_)
      · rw [asKvs_len]
        have h1 : (lessR ((rowsOf kvs).take i) a b).length ≤ ((rowsOf kvs).take i).length := List.length_filter_le _ _
        rw [List.length_take] at h1
        omega
      · refine t_end ⟨.inr rfl, .inr rfl, .inr rfl, .inr ?_, .inl rfl, trivial⟩ trivial
        rw [step, ← as_snoc u]
    · have e' : (r.1, r.2.1) = (a, b) := by simpa using e
      have c : ¬ ¬ (r.1 = a ∧ r.2.1 = b) := fun h => h ⟨congrArg (·.1) e', congrArg (·.2) e'⟩
      refine t_end ⟨.inr rfl, .inr rfl, .inr rfl, .inr ?_, .inl rfl, trivial⟩ trivial
      rw [step, if_neg c, List.append_nil]
  · rw [List.take_length]
    exact t_retO rfl (fun h => h) hS
theorem en_less {c : Cw} {Γ : List Spec} {ta tb tc : TE} {n a b : Int} {kvs : Kvs} {E : XK} (h : EB (CB K) c Γ ta (n, kvs)) (h1 : EG c Γ tb aI a) (h2 : EG c Γ tc aI b) (G : GoodB n kvs) :
    EN c Γ (tCall (spLess K) [] E (tCons ta (tCons tb (tCons tc tNil)))) (oBk (CB K)) (n, asKvs (lessR (rowsOf kvs) a b)) := en_call ((n, kvs), a, b) (ea_see h (ea_is h1 (ea_is h2 ea_nil))) G rfl
theorem GoodB.only {n : Int} {kvs : Kvs} (G : GoodB n kvs) (a b : Int) : GoodB n (asKvs (onlyR (rowsOf kvs) a b)) := (G.rows.filter _).book
theorem only_rows {n : Int} {kvs : Kvs} (G : GoodB n kvs) (a b : Int) : rowsOf (asKvs (onlyR (rowsOf kvs) a b)) = onlyR (rowsOf kvs) a b := (G.rows.filter _).eq
theorem GoodB.less {n : Int} {kvs : Kvs} (G : GoodB n kvs) (a b : Int) : GoodB n (asKvs (lessR (rowsOf kvs) a b)) := (G.rows.filter _).book
theorem less_rows {n : Int} {kvs : Kvs} (G : GoodB n kvs) (a b : Int) : rowsOf (asKvs (lessR (rowsOf kvs) a b)) = lessR (rowsOf kvs) a b := (G.rows.filter _).eq
theorem eg_leastO {c : Cw} {Γ : List Spec} {ta tb tc : TE} {n a b : Int} {kvs : Kvs} {E E' : XK} (h : EB (CB K) c Γ ta (n, kvs)) (h1 : EG c Γ tb aI a) (h2 : EG c Γ tc aI b) (G : GoodB n kvs) :
    EG c Γ (tCall (spLeast K) [] E (tCons (tCall (spOnly K) [] E' (tCons ta (tCons tb (tCons tc tNil)))) tNil)) aO (leastV n (onlyR (rowsOf kvs) a b)) :=
  EG.eq (eg_least (eb_new (en_only h h1 h2 G)) (GoodB.only G a b)) (by rw [only_rows G])
theorem eg_leastL {c : Cw} {Γ : List Spec} {ta tb tc : TE} {n a b : Int} {kvs : Kvs} {E E' : XK} (h : EB (CB K) c Γ ta (n, kvs)) (h1 : EG c Γ tb aI a) (h2 : EG c Γ tc aI b) (G : GoodB n kvs) :
    EG c Γ (tCall (spLeast K) [] E (tCons (tCall (spLess K) [] E' (tCons ta (tCons tb (tCons tc tNil)))) tNil)) aO (leastV n (lessR (rowsOf kvs) a b)) :=
  EG.eq (eg_least (eb_new (en_less h h1 h2 G)) (GoodB.less G a b)) (by rw [less_rows G])

end
end
section
local macro_rules | `(tactic| walk_at "ev") => `(tactic| first
  | ((with_reducible apply eg_var); rfl)
  | with_reducible exact eg_int
  | with_reducible exact eg_bl
  | with_reducible exact eg_str
  | with_reducible exact eg_non
  | ((with_reducible apply eg_Ii); walk_at "ev"; walk_at "ev")
  | ((with_reducible apply eg_Ib); walk_at "ev"; walk_at "ev")
  | ((with_reducible apply eg_Ic); walk_at "ev"; walk_at "ev"; walk_at "side")
  | ((with_reducible apply eg_un); walk_at "ev")
  | ((with_reducible apply eg_chain); walk_at "ev"; walk_at "ev"; walk_at "ev")
  | ((with_reducible apply eg_eqI); walk_at "ev"; walk_at "ev")
  | ((with_reducible apply eg_neI); walk_at "ev"; walk_at "ev")
  | ((with_reducible apply eg_eqS); walk_at "ev"; walk_at "ev")
  | ((with_reducible apply eg_neS); walk_at "ev"; walk_at "ev")
  | ((with_reducible apply eg_eqO); walk_at "ev"; walk_at "ev")
  | ((with_reducible apply eg_neO); walk_at "ev"; walk_at "ev")
  | ((with_reducible apply eg_isO); walk_at "ev")
  | ((with_reducible apply eg_notO); walk_at "ev")
  | ((with_reducible apply eg_isT objT3); walk_at "ev")
  | ((with_reducible apply eg_isT objL); walk_at "ev")
  | ((with_reducible apply eg_p0); walk_at "ev")
  | ((with_reducible apply eg_p1); walk_at "ev")
  | ((with_reducible apply eg_t0); walk_at "ev")
  | ((with_reducible apply eg_t1); walk_at "ev")
  | ((with_reducible apply eg_t2); walk_at "ev")
  | ((with_reducible apply eg_len (τ := aRow)); walk_at "ev")
  | ((with_reducible apply eg_len); walk_at "ev")
  | ((with_reducible apply eg_tup2); walk_at "ev"; walk_at "ev")
  | ((with_reducible apply eg_tup3); walk_at "ev"; walk_at "ev"; walk_at "ev")
  | ((with_reducible apply eg_in); walk_at "ev"; walk_at "ev")
  | ((with_reducible apply eg_nin); walk_at "ev"; walk_at "ev")
  | ((with_reducible apply eg_sum); walk_at "ev")
  | ((with_reducible apply eg_all); walk_at "ev")
  | ((with_reducible apply eg_max2); walk_at "ev"; walk_at "ev")
  | ((with_reducible apply eg_get1); walk_at "ev"; walk_at "ev")
  | ((with_reducible apply eg_din); walk_at "ev"; walk_at "ev")
  | ((with_reducible apply eg_dnin); walk_at "ev"; walk_at "ev")
  | ((with_reducible apply eg_lenT); walk_at "ev")
  | ((with_reducible apply eg_not); walk_at "ev")
  | ((with_reducible apply eg_and'); walk_at "ev"; walk_at "ev")
  | ((with_reducible apply eg_or'); walk_at "ev"; walk_at "ev")
  | ((with_reducible apply et_not); walk_at "ev")
  | ((with_reducible apply et_and'); walk_at "ev"; walk_at "ev")
  | ((with_reducible apply et_or'); walk_at "ev"; walk_at "ev")
  | ((with_reducible apply et_test); walk_at "ev")
  | ((with_reducible apply et_B); walk_at "ev")
  | with_reducible exact et_yes
  | ((with_reducible apply ekp_tup); walk_at "ev"; walk_at "ev")
  | ((with_reducible apply ekp_of); walk_at "ev")
  | ((with_reducible apply edt_own); rfl)
  | ((with_reducible apply EG.edt); walk_at "ev")
  | ((with_reducible apply edk_own); rfl)
  | ((with_reducible apply EG.edk); walk_at "ev")
  | ((with_reducible apply ex_own); rfl)
  | ((with_reducible apply EX.el); (with_reducible apply ex_own); rfl)
  | ((with_reducible apply EG.el); walk_at "ev")
  | ((with_reducible apply EG.scr); walk_at "ev")
  | ((with_reducible apply EG.ef); walk_at "ev")
  | ((with_reducible apply EG.ex); walk_at "ev")
  | ((with_reducible apply EX.el); (with_reducible apply EN.ex); walk_at "ev")
  | ((with_reducible apply EN.ex); walk_at "ev")
  | ((with_reducible apply eb_see); rfl)
  | ((with_reducible apply eb_own); rfl)
  | ((with_reducible apply eb_of); walk_at "ev")
  | with_reducible exact ea_nil
  | ((with_reducible apply ea_is); walk_at "ev"; walk_at "ev")
  | ((with_reducible apply ea_see); walk_at "ev"; walk_at "ev")
  | with_reducible exact eas_nil
  | ((with_reducible apply eas_cons); walk_at "ev"; walk_at "ev")
  | ((with_reducible apply en_lst); walk_at "ev"; exact Nat.le_of_ble_eq_true rfl)
  | ((with_reducible apply en_list); walk_at "ev")
  | with_reducible exact en_dK
  | with_reducible exact en_dT
  | ((with_reducible apply eg_size); walk_at "ev"; exact Txt.cl (by assumption); exact Txt.nS (by assumption))
  | ((with_reducible apply edt_costs); walk_at "ev"; exact Txt.cl (by assumption); exact Txt.nC (by assumption)))
local macro_rules | `(tactic| walk_at "side") => `(tactic| first
  | exact ⟨by decide, by decide⟩
  | exact .inr ⟨by decide, by decide⟩
  | exact .inl ⟨by decide, by decide⟩
  | decide
  | omega
  | (show (0 : Int) < _; omega))
local macro_rules | `(tactic| walk_at "nz") => `(tactic| (try dsimp only [entS] at *))
local macro_rules | `(tactic| walk_at "ev") => `(tactic| first
  | ((with_reducible apply eg_many); walk_at "ev")
  | ((with_reducible apply en_hear); walk_at "ev"; assumption))
section
variable {P : Program} {w : World} {K : PySem.W.Frag} {mg : Str → Option Value} {base : Heap}
/-! ### the first one of the least -/
noncomputable def firstOut (n : Int) (rows : List Rw3) : Out := match firstV n rows with
  | none => .ret (aOp aFam) none
  | some f => .new (oL aO) f
noncomputable abbrev spFirst (K : PySem.W.Frag) : Sp := Pm (fun b : Bk => [.see (aBk (CB K)) b]) (fun b => firstOut b.1 (rowsOf b.2)) fun b => GoodB b.1 b.2
def bkSp (K : PySem.W.Frag) (n : Int) (kvs : Kvs) (i : Nat) (cur : List Rw3) : Spec := match i with
  | 0 => .see (aBk (CB K)) (n, kvs)
  | _ + 1 => .own (oBk (CB K)) (n, asKvs cur)
theorem bkSp_at {n : Int} {kvs : Kvs} {i : Nat} {cur : List Rw3} (G : GoodB n kvs) (h0 : i = 0 → cur = rowsOf kvs) (GR : GoodR n cur) : ∃ kv, GoodB n kv ∧ rowsOf kv = cur ∧ ∀ {c : Cw} {Γ : List Spec}, Γ[0]? = some (bkSp K n kvs i cur) → EB (CB K) c Γ (tVar 0) (n, kv) := by
  cases i with
  | zero => exact ⟨kvs, G, (h0 rfl).symm, fun h => eb_see h⟩
  | succ i => exact ⟨asKvs cur, GR.book, GR.eq, fun h => eb_own h⟩
abbrev s_first : Stmt := top 28
abbrev N_first : List Str := ["book", "wanted", "found", "teller", "ones", "good", "row", "one"]
abbrev P_first : List Str := ["book"]
theorem sc_first : FnScope N_first P_first (defScope s_first) := ⟨rfl, rfl, rfl, by decide +kernel, rfl, by decide +kernel, by decide +kernel⟩

theorem ok_first {f : Addr} {fd : FuncData} (F : FunX K "first" "first" s_first f fd) (T : Txt K mg) (c_B_many : Met P w K mg base 1 (CB K) "many" (spMany K)) (c_B_hearings : Met P w K mg base 1 (CB K) "hearings" (spHear K))
    (c_least : Cal P w K mg base 16 "least" (spLeast K)) (c_only : Cal P w K mg base 3 "only" (spOnly K)) : FnOk P w K mg base (L2.CX P w) 17 f fd P_first (spFirst K) := by
  refine okP F sc_first (fun _ => rfl) fun cdv A outer s H Q E ⟨n, kvs⟩ A0 hr G hS => ?_
  have hu := hu_of hr
  refine ⟨_, (pss_cons (ps_set (i := 1) sc_first.nd rfl (Or.inr rfl) (pe_cN c_least hr (by first | decide | omega) rfl (pa_cons (pv 0) pa_nil)))
  (pss_cons (ps_if (pt_cmpR op_isN (pv 1) pe_non (nomark _))
  (pss_one (ps_ret pe_non))
  pss_nil)
  (pss_cons (ps_set (i := 2) sc_first.nd rfl (Or.inl rfl) (pe_lst (pa_cons pe_non pa_nil)))
  (pss_cons (ps_for PassesOwn.never rfl (pi_range2 rfl T.b_range (pa_cons pe_int (pa_cons (pe_mN0 c_B_many hr (by first | decide | omega) (pv 0)) pa_nil))) (pg_name (i := 3) sc_first.nd rfl (Or.inr rfl))
  (pss_cons (qs_setLc (i := 4) (x := "row") (j := 6) rfl sc_first.nd rfl rfl (sw_true rfl rfl rfl (by decide +kernel)) (qi_list (K := K) rfl (pe_mN0 c_B_hearings hr (by first | decide | omega) (pv 0))) (blkOk_by (N := N_first) (sc := defScope s_first) (by decide +kernel)) (fun _ _ _ _ _ => pg_name (i := 6) sc_first.nd rfl (Or.inl rfl)) (fun _ _ _ _ _ => by exact (pts_one (pt_cmpR op_eq (pe_ix (qx_tup (K := K) rfl) (pv 6) pe_int (fun _ _ => rfl)) (pv 3) (nomark _)))) (fun _ _ _ _ _ => by exact (pe_ix (qx_tup (K := K) rfl) (pv 6) pe_int (fun _ _ => rfl))))
  (pss_cons (qs_setLc (i := 5) (x := "one") (j := 7) rfl sc_first.nd rfl rfl (sw_true rfl rfl rfl (by decide +kernel)) (qi_list (K := K) rfl (pv 4)) (blkOk_by (N := N_first) (sc := defScope s_first) (by decide +kernel)) (fun _ _ _ _ _ => pg_name (i := 7) sc_first.nd rfl (Or.inl rfl)) (fun _ _ _ _ _ => by exact (pts_one (pt_cmpR op_eq (pe_cN c_least hr (by first | decide | omega) rfl (pa_cons (pe_cN c_only hr (by first | decide | omega) rfl (pa_cons (pv 0) (pa_cons (pv 7) (pa_cons (pv 3) pa_nil)))) pa_nil)) (pv 1) (nomark _)))) (fun _ _ _ _ _ => by exact (pv 7)))
  (pss_cons (ps_set (i := 0) sc_first.nd rfl (Or.inr rfl) (pe_cN c_only hr (by first | decide | omega) rfl (pa_cons (pv 0) (pa_cons (pe_ix (qx_list (K := K) rfl) (pv 5) pe_int (fun _ _ => rfl)) (pa_cons (pv 3) pa_nil)))))
  (pss_one (ps_expr (qe_bm (K := K) rfl PySem.F.plainAttrs_list PySem.F.slot_list_append PySem.F.type_list_append mt_append (pv 2) (pa_cons (pe_ix (qx_list (K := K) rfl) (pv 5) pe_int (fun _ _ => rfl)) pa_nil))))))))
  (pss_one (ps_ret (pv 2))))))), ?_⟩
  walk_at "nz"
  have n1 := G.n1
  have n2 := G.n2
  refine t_asg (eg_least (by walk_at "ev") G) ?_
  refine t_if (b := (leastV n (rowsOf kvs)).isNone) (et_test (eg_isO (by walk_at "ev"))) (fun e => ?_) (fun e => t_go ?_)
  · have e' : leastV n (rowsOf kvs) = none := by simpa using e
    exact t_ret (τ := aOp aFam) (x := none) (EG.ofNone eg_non) (hS.ret (by unfold firstOut; rw [firstV_none e']))
  obtain ⟨w0, hw⟩ : ∃ w0, leastV n (rowsOf kvs) = some w0 := by
    cases q : leastV n (rowsOf kvs) with
    | none => rw [q] at e; cases e
    | some w0 => exact ⟨w0, rfl⟩
  rw [hw]
  refine t_new (κ := oL aO) (x := [none]) (en_lst (eas_cons (EG.optN eg_non) eas_nil) (by show 1 ≤ 100000; decide)) ?_
  refine t_forR2S (ι := List Rw3 × Fml) (a := 1) (n := n) (fun i s => [bkSp K n kvs i s.1, .is aO (some w0), .own (oL aO) s.2, .any, .any, .any, .any, .any]) (fun i s => FirstInv n (rowsOf kvs) w0 i s.1 s.2 ∧ GoodR n s.1 ∧ (i = 0 → s.1 = rowsOf kvs)) (rowsOf kvs, [none]) (by walk_at "ev") (by walk_at "ev") (by omega)
    ⟨.inr rfl, .inr rfl, .inr rfl, .inl rfl, .inl rfl, .inl rfl, .inl rfl, .inl rfl, trivial⟩ ⟨FirstInv.start G.rin hw, G.rows, fun _ => rfl⟩ (fun i ⟨cur, fnd⟩ hi ⟨V, GR, h0⟩ => ?_) (fun ⟨cur, fnd⟩ ⟨V, GR, h0⟩ => ?_)
  · walk_at "nz"
    obtain ⟨kv, Gk, ek, hb⟩ := bkSp_at (K := K) G h0 GR
    have hear : ∀ {c : Cw} {Γ : List Spec} {E : XK}, Γ[0]? = some (bkSp K n kvs i cur) → EN c Γ (tMeth (CB K) "hearings" (spHear K) [] E (tVar 0) tNil) (oL aRow) cur := fun {c Γ E} h => by
      have := en_hear (E := E) (hb (c := c) h) Gk
      rw [ek] at this; exact this
    have lsto : ∀ {c : Cw} {Γ : List Spec} {tb tc : TE} {a b : Int} {E E' : XK}, Γ[0]? = some (bkSp K n kvs i cur) → EG c Γ tb aI a → EG c Γ tc aI b → EG c Γ (tCall (spLeast K) [] E (tCons (tCall (spOnly K) [] E' (tCons (tVar 0) (tCons tb (tCons tc tNil)))) tNil)) aO (leastV n (onlyR cur a b)) := fun {c Γ tb tc a b E E'} h h1 h2 => by
      have := eg_leastO (E := E) (E' := E') (hb (c := c) h) h1 h2 Gk
      rw [ek] at this; exact this
    have onl : ∀ {c : Cw} {Γ : List Spec} {tb tc : TE} {a b : Int} {E : XK}, Γ[0]? = some (bkSp K n kvs i cur) → EG c Γ tb aI a → EG c Γ tc aI b → EN c Γ (tCall (spOnly K) [] E (tCons (tVar 0) (tCons tb (tCons tc tNil)))) (oBk (CB K)) (n, asKvs (onlyR cur a b)) := fun {c Γ tb tc a b E} h h1 h2 => by
      have := en_only (E := E) (hb (c := c) h) h1 h2 Gk
      rw [ek] at this; exact this
    have few := GR.few
    have lf := V.len
    generalize ht : 1 + (i : Int) = t at *
    have t1 : 1 ≤ t := by omega
    refine t_asg (τ := aL aI) (x := (cur.filter fun r => decide (r.2.1 = t)).map fun r => r.1) (EN.fz (κ := oL aI) (en_lc (τ := aI) (θ := aRow) (fun r => decide (r.2.1 = t)) (fun r => r.1) (EX.el (EN.ex (hear rfl))) (by omega) (fun r hr => by walk_at "ev") fun r hr _ => by walk_at "ev")) ?_
    have lones : ((cur.filter fun r => decide (r.2.1 = t)).map fun r => r.1).length ≤ 144 := by
      rw [List.length_map]
      exact Nat.le_trans (List.length_filter_le _ _) few
    refine t_asg (τ := aL aI) (x := ((cur.filter fun r => decide (r.2.1 = t)).map fun r => r.1).filter fun a => decide (leastV n (onlyR cur a t) = some w0)) (EN.fz (κ := oL aI) (en_lcF (θ := aI) (fun a => decide (leastV n (onlyR cur a t) = some w0)) (by walk_at "ev") (by omega) (fun a ha => ?_) (Nat.le_of_ble_eq_true rfl))) ?_
    · exact et_test (eg_eqO (lsto rfl (by walk_at "ev") (by walk_at "ev")) (by walk_at "ev"))
    -- the good ones
    have mem_good : ∀ a, a ∈ (((cur.filter fun r => decide (r.2.1 = t)).map fun r => r.1).filter fun a => decide (leastV n (onlyR cur a t) = some w0)) ↔ hasR cur a t ∧ leastV n (onlyR cur a t) = some w0 := fun a => by
      rw [List.mem_filter, List.mem_map]
      constructor
      · rintro ⟨⟨r, hr, rfl⟩, h2⟩
        obtain ⟨hr1, hr2⟩ := List.mem_filter.mp hr
        exact ⟨⟨r.2.2, by rw [← of_decide_eq_true hr2]; exact hr1⟩, of_decide_eq_true h2⟩
      · rintro ⟨⟨c, hc⟩, h2⟩
        exact ⟨⟨_, List.mem_filter.mpr ⟨hc, decide_eq_true rfl⟩, rfl⟩, decide_eq_true h2⟩
    have srt_good : (((cur.filter fun r => decide (r.2.1 = t)).map fun r => r.1).filter fun a => decide (leastV n (onlyR cur a t) = some w0)).Pairwise (· < ·) := by
      refine List.Pairwise.sublist List.filter_sublist ?_
      rw [List.pairwise_map]
      have h1 := GR.srt.sublist (l₁ := cur.filter fun r => decide (r.2.1 = t)) List.filter_sublist
      refine List.Pairwise.imp_of_mem ?_ h1
      intro a b ha hb' q
      have ea := of_decide_eq_true (List.mem_filter.mp ha).2
      have eb := of_decide_eq_true (List.mem_filter.mp hb').2
      have q' : a.1 < b.1 ∨ (a.1 = b.1 ∧ a.2.1 < b.2.1) := q
      omega
    obtain ⟨a0, ha0⟩ := V.good (t := t) t1 hi
    have hm0 := (mem_good a0).mpr ha0
    generalize hgood : (((cur.filter fun r => decide (r.2.1 = t)).map fun r => r.1).filter fun a => decide (leastV n (onlyR cur a t) = some w0)) = good at *
    cases good with
    | nil => cases hm0
    | cons a rest =>
      have ha := (mem_good a).mp (List.mem_cons_self ..)
      have low : ∀ b, hasR cur b t → leastV n (onlyR cur b t) = some w0 → a ≤ b := fun b h1 h2 => by
        have := (mem_good b).mpr ⟨h1, h2⟩
        cases this with
        | head => exact Int.le_refl _
        | tail _ h => have := (List.pairwise_cons.mp srt_good).1 b h; omega
      have GR' : GoodR n (onlyR cur a t) := GR.filter _
      refine t_new (κ := oBk (CB K)) (x := (n, asKvs (onlyR cur a t))) (onl rfl (eg_ixL (by walk_at "ev") (by walk_at "ev") (at_of (by omega) rfl)) (by walk_at "ev")) ?_
      refine t_one (t_dropM (em_app (x := some a) rfl (EG.opt (eg_ixL (by walk_at "ev") (by walk_at "ev") (at_of (by omega) rfl))) (by omega)) ?_)
      refine t_endS (onlyR cur a t, fnd ++ [some a]) ⟨.inr rfl, .inr rfl, .inr rfl, .inl rfl, .inl rfl, .inl rfl, .inl rfl, .inl rfl, trivial⟩ ⟨?_, GR', fun h => by omega⟩
      have := V.next (R := G.rin) (a := a) (by omega) (by rw [ht]; exact ha.2) (by rw [ht]; exact low)
      rw [ht] at this
      exact this
  · have FI := V.done (R := G.rin) (by omega)
    exact t_retO (i := 2) rfl (fun h => h) (hS.new (by unfold firstOut; rw [firstV_eq FI]))
theorem eg_first {c : Cw} {Γ : List Spec} {ta : TE} {n : Int} {kvs : Kvs} {E : XK} (h : EB (CB K) c Γ ta (n, kvs)) (G : GoodB n kvs) : EG c Γ (tCall (spFirst K) [] E (tCons ta tNil)) (aOp aFam) (firstV n (rowsOf kvs)) := by
  cases e : firstV n (rowsOf kvs) with
  | none => exact eg_call (n, kvs) (ea_see h ea_nil) G (by show firstOut n (rowsOf kvs) = _; unfold firstOut; rw [e])
  | some f => exact EG.ofSome (EN.fz (κ := oL aO) (en_call (n, kvs) (ea_see h ea_nil) G (by show firstOut n (rowsOf kvs) = _; unfold firstOut; rw [e])))
theorem en_first {c : Cw} {Γ : List Spec} {ta : TE} {n : Int} {kvs : Kvs} {f : Fml} {E : XK} (h : EB (CB K) c Γ ta (n, kvs)) (G : GoodB n kvs) (e : firstV n (rowsOf kvs) = some f) : EN c Γ (tCall (spFirst K) [] E (tCons ta tNil)) (oL aO) f :=
  en_call (n, kvs) (ea_see h ea_nil) G (by show firstOut n (rowsOf kvs) = _; unfold firstOut; rw [e])

end
end
section
local macro_rules | `(tactic| walk_at "ev") => `(tactic| first
  | ((with_reducible apply eg_var); rfl)
  | with_reducible exact eg_int
  | with_reducible exact eg_bl
  | with_reducible exact eg_str
  | with_reducible exact eg_non
  | ((with_reducible apply eg_Ii); walk_at "ev"; walk_at "ev")
  | ((with_reducible apply eg_Ib); walk_at "ev"; walk_at "ev")
  | ((with_reducible apply eg_Ic); walk_at "ev"; walk_at "ev"; walk_at "side")
  | ((with_reducible apply eg_un); walk_at "ev")
  | ((with_reducible apply eg_chain); walk_at "ev"; walk_at "ev"; walk_at "ev")
  | ((with_reducible apply eg_eqI); walk_at "ev"; walk_at "ev")
  | ((with_reducible apply eg_neI); walk_at "ev"; walk_at "ev")
  | ((with_reducible apply eg_eqS); walk_at "ev"; walk_at "ev")
  | ((with_reducible apply eg_neS); walk_at "ev"; walk_at "ev")
  | ((with_reducible apply eg_eqO); walk_at "ev"; walk_at "ev")
  | ((with_reducible apply eg_neO); walk_at "ev"; walk_at "ev")
  | ((with_reducible apply eg_isO); walk_at "ev")
  | ((with_reducible apply eg_notO); walk_at "ev")
  | ((with_reducible apply eg_isT objT3); walk_at "ev")
  | ((with_reducible apply eg_isT objL); walk_at "ev")
  | ((with_reducible apply eg_p0); walk_at "ev")
  | ((with_reducible apply eg_p1); walk_at "ev")
  | ((with_reducible apply eg_t0); walk_at "ev")
  | ((with_reducible apply eg_t1); walk_at "ev")
  | ((with_reducible apply eg_t2); walk_at "ev")
  | ((with_reducible apply eg_len (τ := aRow)); walk_at "ev")
  | ((with_reducible apply eg_len); walk_at "ev")
  | ((with_reducible apply eg_tup2); walk_at "ev"; walk_at "ev")
  | ((with_reducible apply eg_tup3); walk_at "ev"; walk_at "ev"; walk_at "ev")
  | ((with_reducible apply eg_in); walk_at "ev"; walk_at "ev")
  | ((with_reducible apply eg_nin); walk_at "ev"; walk_at "ev")
  | ((with_reducible apply eg_sum); walk_at "ev")
  | ((with_reducible apply eg_all); walk_at "ev")
  | ((with_reducible apply eg_max2); walk_at "ev"; walk_at "ev")
  | ((with_reducible apply eg_get1); walk_at "ev"; walk_at "ev")
  | ((with_reducible apply eg_din); walk_at "ev"; walk_at "ev")
  | ((with_reducible apply eg_dnin); walk_at "ev"; walk_at "ev")
  | ((with_reducible apply eg_lenT); walk_at "ev")
  | ((with_reducible apply eg_not); walk_at "ev")
  | ((with_reducible apply eg_and'); walk_at "ev"; walk_at "ev")
  | ((with_reducible apply eg_or'); walk_at "ev"; walk_at "ev")
  | ((with_reducible apply et_not); walk_at "ev")
  | ((with_reducible apply et_and'); walk_at "ev"; walk_at "ev")
  | ((with_reducible apply et_or'); walk_at "ev"; walk_at "ev")
  | ((with_reducible apply et_test); walk_at "ev")
  | ((with_reducible apply et_B); walk_at "ev")
  | with_reducible exact et_yes
  | ((with_reducible apply ekp_tup); walk_at "ev"; walk_at "ev")
  | ((with_reducible apply ekp_of); walk_at "ev")
  | ((with_reducible apply edt_own); rfl)
  | ((with_reducible apply EG.edt); walk_at "ev")
  | ((with_reducible apply edk_own); rfl)
  | ((with_reducible apply EG.edk); walk_at "ev")
  | ((with_reducible apply ex_own); rfl)
  | ((with_reducible apply EX.el); (with_reducible apply ex_own); rfl)
  | ((with_reducible apply EG.el); walk_at "ev")
  | ((with_reducible apply EG.scr); walk_at "ev")
  | ((with_reducible apply EG.ef); walk_at "ev")
  | ((with_reducible apply EG.ex); walk_at "ev")
  | ((with_reducible apply EX.el); (with_reducible apply EN.ex); walk_at "ev")
  | ((with_reducible apply EN.ex); walk_at "ev")
  | ((with_reducible apply eb_see); rfl)
  | ((with_reducible apply eb_own); rfl)
  | ((with_reducible apply eb_of); walk_at "ev")
  | with_reducible exact ea_nil
  | ((with_reducible apply ea_is); walk_at "ev"; walk_at "ev")
  | ((with_reducible apply ea_see); walk_at "ev"; walk_at "ev")
  | with_reducible exact eas_nil
  | ((with_reducible apply eas_cons); walk_at "ev"; walk_at "ev")
  | ((with_reducible apply en_lst); walk_at "ev"; exact Nat.le_of_ble_eq_true rfl)
  | ((with_reducible apply en_list); walk_at "ev")
  | with_reducible exact en_dK
  | with_reducible exact en_dT
  | ((with_reducible apply eg_size); walk_at "ev"; exact Txt.cl (by assumption); exact Txt.nS (by assumption))
  | ((with_reducible apply edt_costs); walk_at "ev"; exact Txt.cl (by assumption); exact Txt.nC (by assumption)))
local macro_rules | `(tactic| walk_at "side") => `(tactic| first
  | exact ⟨by decide, by decide⟩
  | exact .inr ⟨by decide, by decide⟩
  | exact .inl ⟨by decide, by decide⟩
  | decide
  | omega
  | (show (0 : Int) < _; omega))
local macro_rules | `(tactic| walk_at "nz") => `(tactic| (try dsimp only [entS] at *))
local macro_rules | `(tactic| walk_at "ev") => `(tactic| first
  | ((with_reducible apply eg_many); walk_at "ev")
  | ((with_reducible apply en_hear); walk_at "ev"; assumption))
section
variable {P : Program} {w : World} {K : PySem.W.Frag} {mg : Str → Option Value} {base : Heap}
/-! ### lacks, free and bound hearings -/
noncomputable def lackOut (K : PySem.W.Frag) (n : Int) (kvs : Kvs) (a b : Int) : Out := match banX K (n, kvs) a b with
  | some X => .exc X
  | none => .ret aO (lackV n (rowsOf kvs) a b)
noncomputable abbrev spLack (K : PySem.W.Frag) : Sp := Pm (fun a : Bk × Int × Int => [.see (aBk (CB K)) a.1, .is aI a.2.1, .is aI a.2.2]) (fun a => lackOut K a.1.1 a.1.2 a.2.1 a.2.2) fun a => GoodB a.1.1 a.1.2
theorem only_some_base {n : Int} {rows : List Rw3} (R : RowsIn n rows) {a b m : Int} (hb : 1 ≤ b ∧ b < n) (h : leastV n (onlyR rows a b) = some m) : ∃ w, leastV n rows = some w := by
  obtain ⟨⟨fam, I, _, _⟩, _⟩ := (only_some R hb).mp h
  cases q : leastV n rows with
  | none => exact absurd I ((leastV_none R).mp q fam)
  | some w => exact ⟨w, rfl⟩
abbrev s_lack : Stmt := top 29
abbrev N_lack : List Str := ["book", "one", "other", "most"]
abbrev P_lack : List Str := ["book", "one", "other"]
theorem sc_lack : FnScope N_lack P_lack (defScope s_lack) := ⟨rfl, rfl, rfl, by decide +kernel, rfl, by decide +kernel, by decide +kernel⟩

theorem ok_lack {f : Addr} {fd : FuncData} (F : FunX K "lack" "lack" s_lack f fd) (T : Txt K mg) (c_B_cost : Met P w K mg base 2 (CB K) "cost" (spCost K))
    (c_least : Cal P w K mg base 16 "least" (spLeast K)) (c_only : Cal P w K mg base 3 "only" (spOnly K)) : FnOk P w K mg base (L2.CX P w) 17 f fd P_lack (spLack K) := by
  refine okPX F sc_lack (fun _ => rfl) fun cdv A outer s H Q E ⟨⟨n, kvs⟩, a, b⟩ A0 hr G hS => ?_
  have hu := hu_of hr
  refine ⟨_, (pss_cons (ps_if (pt_cmpR op_isN (pe_mX c_B_cost (passes_call (takes_of rfl rfl rfl rfl) fun _ _ _ _ h => h) hr (by first | decide | omega) (pv 0) (pa_cons (pv 1) (pa_cons (pv 2) pa_nil))) pe_non (nomark _))
  (pss_one (ps_raise rfl (takes_of rfl rfl rfl rfl) (T.x_NoHearing.mkK rfl rfl rfl)))
  pss_nil)
  (pss_cons (ps_set (i := 3) sc_lack.nd rfl (Or.inl rfl) (pe_cN c_least hr (by first | decide | omega) rfl (pa_cons (pe_cN c_only hr (by first | decide | omega) rfl (pa_cons (pv 0) (pa_cons (pv 1) (pa_cons (pv 2) pa_nil)))) pa_nil)))
  (pss_cons (ps_if (pt_cmpR op_isN (pv 3) pe_non (nomark _))
  (pss_one (ps_ret pe_non))
  pss_nil)
  (pss_one (ps_ret (pe_op op_sub (pv 3) (pe_cN c_least hr (by first | decide | omega) rfl (pa_cons (pv 0) pa_nil)))))))), ?_⟩
  walk_at "nz"
  unfold lackOut banX at hS
  cases ea : askX K n a b with
  | some B =>
    simp only [ea] at hS
    exact t_ifX (xt_test (xg_op1 (xg_meth ((n, kvs), a, b) (by walk_at "ev") (by walk_at "ev") rfl trivial (by show askOut (askX K n a b) _ = _; rw [ea]; rfl)))) hS
  | none =>
    simp only [ea] at hS
    have ok := askX_none ea
    refine t_if (b := (getP kvs (a, b)).isNone) (et_test (eg_isO (eg_cost (by walk_at "ev") (by walk_at "ev") (by walk_at "ev") ea))) (fun e => ?_) (fun e => t_go ?_)
    · have e' : ¬ (getP kvs (a, b)).isSome = true := by
        cases q : getP kvs (a, b) with
        | none => simp
        | some c => rw [q] at e; cases e
      rw [if_neg e'] at hS
      exact t_raise hS
    · have e' : (getP kvs (a, b)).isSome = true := by
        cases q : getP kvs (a, b) with
        | none => rw [q] at e; cases e
        | some c => rfl
      rw [if_pos e'] at hS
      refine t_asg (eg_leastO (by walk_at "ev") (by walk_at "ev") (by walk_at "ev") G) ?_
      refine t_if (b := (leastV n (onlyR (rowsOf kvs) a b)).isNone) (et_test (eg_isO (by walk_at "ev"))) (fun e2 => ?_) (fun e2 => t_go ?_)
      · have e3 : leastV n (onlyR (rowsOf kvs) a b) = none := by simpa using e2
        unfold lackV at hS
        rw [e3] at hS
        exact t_ret (EG.optN eg_non) hS
      · obtain ⟨m, e3⟩ : ∃ m, leastV n (onlyR (rowsOf kvs) a b) = some m := by
          cases q : leastV n (onlyR (rowsOf kvs) a b) with
          | none => rw [q] at e2; cases e2
          | some m => exact ⟨m, rfl⟩
        obtain ⟨w0, e4⟩ := only_some_base G.rin ok.2.1 e3
        unfold lackV at hS
        simp only [e3, e4] at hS
        exact t_ret (x := some (m - w0)) (EG.opt (eg_Ii (g := fun i j => i - j) (EG.int (EG.eq (x' := some m) (by walk_at "ev") e3)) (EG.int (EG.eq (x' := some w0) (eg_least (by walk_at "ev") G) e4)))) hS
theorem eg_lack {c : Cw} {Γ : List Spec} {ta tb tc : TE} {n a b : Int} {kvs : Kvs} {E : XK} (h : EB (CB K) c Γ ta (n, kvs)) (h1 : EG c Γ tb aI a) (h2 : EG c Γ tc aI b) (G : GoodB n kvs) (hh : hasR (rowsOf kvs) a b) :
    EG c Γ (tCall (spLack K) [] E (tCons ta (tCons tb (tCons tc tNil)))) aO (lackV n (rowsOf kvs) a b) := eg_call ((n, kvs), a, b) (ea_see h (ea_is h1 (ea_is h2 ea_nil))) G (by
      obtain ⟨k, hk⟩ := hh
      have rg := G.rg _ (mem_rowsOf.mp hk)
      show lackOut K n kvs a b = _
      unfold lackOut banX
      have hp : getP kvs (a, b) = some k := getP_of G.nd (mem_rowsOf.mp hk)
      simp only [askX_ok (K := K) rg.1 rg.2.1 rg.2.2, hp]
      rfl)
noncomputable abbrev spFree (K : PySem.W.Frag) : Sp := Pm (fun b : Bk => [.see (aBk (CB K)) b]) (fun b => .new (oL (aP aI aI)) (freeR b.1 (rowsOf b.2))) fun b => GoodB b.1 b.2
abbrev s_free : Stmt := top 30
abbrev N_free : List Str := ["book", "row"]
abbrev P_free : List Str := ["book"]
theorem sc_free : FnScope N_free P_free (defScope s_free) := ⟨rfl, rfl, rfl, by decide +kernel, rfl, by decide +kernel, by decide +kernel⟩

theorem ok_free {f : Addr} {fd : FuncData} (F : FunX K "free" "free" s_free f fd) (T : Txt K mg) (c_B_hearings : Met P w K mg base 1 (CB K) "hearings" (spHear K)) (c_lack : Cal P w K mg base 17 "lack" (spLack K)) : FnOk P w K mg base (L2.CX P w) 18 f fd P_free (spFree K) := by
  refine okP F sc_free (fun _ => rfl) fun cdv A outer s H Q E ⟨n, kvs⟩ A0 hr G hS => ?_
  have hu := hu_of hr
  refine ⟨_, (pss_one (ps_ret (qe_lc (x := "row") (j := 1) rfl sc_free.nd (qi_list (K := K) rfl (pe_mN0 c_B_hearings hr (by first | decide | omega) (pv 0))) (blkOk_by (N := N_free) (sc := defScope s_free) (by decide +kernel)) (fun _ _ _ _ _ => pg_name (i := 1) sc_free.nd rfl (Or.inl rfl)) (fun _ _ _ _ _ => by exact (pts_one (pt_cmpR op_eq (pe_cN c_lack hr (by first | decide | omega) rfl (pa_cons (pv 0) (pa_cons (pe_ix (qx_tup (K := K) rfl) (pv 1) pe_int (fun _ _ => rfl)) (pa_cons (pe_ix (qx_tup (K := K) rfl) (pv 1) pe_int (fun _ _ => rfl)) pa_nil)))) pe_int (nomark _)))) (fun _ _ _ _ _ => by exact (pe_tup (pa_cons (pe_ix (qx_tup (K := K) rfl) (pv 1) pe_int (fun _ _ => rfl)) (pa_cons (pe_ix (qx_tup (K := K) rfl) (pv 1) pe_int (fun _ _ => rfl)) pa_nil))))))), ?_⟩
  walk_at "nz"
  refine t_retN (en_lc (τ := aP aI aI) (θ := aRow) (fun r => decide (lackV n (rowsOf kvs) r.1 r.2.1 = some 0)) (fun r => (r.1, r.2.1)) (EX.el (EN.ex (by walk_at "ev"))) (by rw [rowsOf_len]; have := G.small; omega) (fun r hr' => ?_) fun r hr' _ => by walk_at "ev") hS
  exact et_test (eg_eqO (eg_lack (by walk_at "ev") (by walk_at "ev") (by walk_at "ev") G ⟨r.2.2, hr'⟩) (EG.opt eg_int))
theorem en_free {c : Cw} {Γ : List Spec} {ta : TE} {n : Int} {kvs : Kvs} {E : XK} (h : EB (CB K) c Γ ta (n, kvs)) (G : GoodB n kvs) : EN c Γ (tCall (spFree K) [] E (tCons ta tNil)) (oL (aP aI aI)) (freeR n (rowsOf kvs)) := en_call (n, kvs) (ea_see h ea_nil) G rfl
noncomputable abbrev spBound (K : PySem.W.Frag) : Sp := Pm (fun b : Bk => [.see (aBk (CB K)) b]) (fun b => .new (oL (aP aI aI)) (boundR b.1 (rowsOf b.2))) fun b => GoodB b.1 b.2
abbrev s_bound : Stmt := top 31
abbrev N_bound : List Str := ["book", "pair"]
abbrev P_bound : List Str := ["book"]
theorem sc_bound : FnScope N_bound P_bound (defScope s_bound) := ⟨rfl, rfl, rfl, by decide +kernel, rfl, by decide +kernel, by decide +kernel⟩

theorem ok_bound {f : Addr} {fd : FuncData} (F : FunX K "bound" "bound" s_bound f fd) (T : Txt K mg) (c_free : Cal P w K mg base 18 "free" (spFree K)) (c_least : Cal P w K mg base 16 "least" (spLeast K)) (c_less : Cal P w K mg base 3 "less" (spLess K)) : FnOk P w K mg base (L2.CX P w) 19 f fd P_bound (spBound K) := by
  refine okP F sc_bound (fun _ => rfl) fun cdv A outer s H Q E ⟨n, kvs⟩ A0 hr G hS => ?_
  have hu := hu_of hr
  refine ⟨_, (pss_one (ps_ret (qe_lc (x := "pair") (j := 1) rfl sc_bound.nd (qi_list (K := K) rfl (pe_cN c_free hr (by first | decide | omega) rfl (pa_cons (pv 0) pa_nil))) (blkOk_by (N := N_bound) (sc := defScope s_bound) (by decide +kernel)) (fun _ _ _ _ _ => pg_name (i := 1) sc_bound.nd rfl (Or.inl rfl)) (fun _ _ _ _ _ => by exact (pts_one (pt_cmpR op_ne (pe_cN c_least hr (by first | decide | omega) rfl (pa_cons (pe_cN c_less hr (by first | decide | omega) rfl (pa_cons (pv 0) (pa_cons (pe_ix (qx_tup (K := K) rfl) (pv 1) pe_int (fun _ _ => rfl)) (pa_cons (pe_ix (qx_tup (K := K) rfl) (pv 1) pe_int (fun _ _ => rfl)) pa_nil)))) pa_nil)) (pe_cN c_least hr (by first | decide | omega) rfl (pa_cons (pv 0) pa_nil)) (nomark _)))) (fun _ _ _ _ _ => by exact (pv 1))))), ?_⟩
  walk_at "nz"
  refine t_retN (en_lcF (θ := aP aI aI) (fun p => !decide (leastV n (lessR (rowsOf kvs) p.1 p.2) = leastV n (rowsOf kvs))) (EX.el (EN.ex (en_free (by walk_at "ev") G))) ?_ (fun p hp => ?_) (Nat.le_of_ble_eq_true rfl)) hS
  · unfold freeR
    rw [List.length_map]
    have h1 := List.length_filter_le (fun r : Rw3 => decide (lackV n (rowsOf kvs) r.1 r.2.1 = some 0)) (rowsOf kvs)
    rw [rowsOf_len] at h1
    have := G.small
    omega
  · exact et_test (eg_neO (eg_leastL (by walk_at "ev") (by walk_at "ev") (by walk_at "ev") G) (eg_least (by walk_at "ev") G))
theorem en_bound {c : Cw} {Γ : List Spec} {ta : TE} {n : Int} {kvs : Kvs} {E : XK} (h : EB (CB K) c Γ ta (n, kvs)) (G : GoodB n kvs) : EN c Γ (tCall (spBound K) [] E (tCons ta tNil)) (oL (aP aI aI)) (boundR n (rowsOf kvs)) := en_call (n, kvs) (ea_see h ea_nil) G rfl

end
end
section
local macro_rules | `(tactic| walk_at "ev") => `(tactic| first
  | ((with_reducible apply eg_var); rfl)
  | with_reducible exact eg_int
  | with_reducible exact eg_bl
  | with_reducible exact eg_str
  | with_reducible exact eg_non
  | ((with_reducible apply eg_Ii); walk_at "ev"; walk_at "ev")
  | ((with_reducible apply eg_Ib); walk_at "ev"; walk_at "ev")
  | ((with_reducible apply eg_Ic); walk_at "ev"; walk_at "ev"; walk_at "side")
  | ((with_reducible apply eg_un); walk_at "ev")
  | ((with_reducible apply eg_chain); walk_at "ev"; walk_at "ev"; walk_at "ev")
  | ((with_reducible apply eg_eqI); walk_at "ev"; walk_at "ev")
  | ((with_reducible apply eg_neI); walk_at "ev"; walk_at "ev")
  | ((with_reducible apply eg_eqS); walk_at "ev"; walk_at "ev")
  | ((with_reducible apply eg_neS); walk_at "ev"; walk_at "ev")
  | ((with_reducible apply eg_eqO); walk_at "ev"; walk_at "ev")
  | ((with_reducible apply eg_neO); walk_at "ev"; walk_at "ev")
  | ((with_reducible apply eg_isO); walk_at "ev")
  | ((with_reducible apply eg_notO); walk_at "ev")
  | ((with_reducible apply eg_isT objT3); walk_at "ev")
  | ((with_reducible apply eg_isT objL); walk_at "ev")
  | ((with_reducible apply eg_p0); walk_at "ev")
  | ((with_reducible apply eg_p1); walk_at "ev")
  | ((with_reducible apply eg_t0); walk_at "ev")
  | ((with_reducible apply eg_t1); walk_at "ev")
  | ((with_reducible apply eg_t2); walk_at "ev")
  | ((with_reducible apply eg_len (τ := aRow)); walk_at "ev")
  | ((with_reducible apply eg_len); walk_at "ev")
  | ((with_reducible apply eg_tup2); walk_at "ev"; walk_at "ev")
  | ((with_reducible apply eg_tup3); walk_at "ev"; walk_at "ev"; walk_at "ev")
  | ((with_reducible apply eg_in); walk_at "ev"; walk_at "ev")
  | ((with_reducible apply eg_nin); walk_at "ev"; walk_at "ev")
  | ((with_reducible apply eg_sum); walk_at "ev")
  | ((with_reducible apply eg_all); walk_at "ev")
  | ((with_reducible apply eg_max2); walk_at "ev"; walk_at "ev")
  | ((with_reducible apply eg_get1); walk_at "ev"; walk_at "ev")
  | ((with_reducible apply eg_din); walk_at "ev"; walk_at "ev")
  | ((with_reducible apply eg_dnin); walk_at "ev"; walk_at "ev")
  | ((with_reducible apply eg_lenT); walk_at "ev")
  | ((with_reducible apply eg_not); walk_at "ev")
  | ((with_reducible apply eg_and'); walk_at "ev"; walk_at "ev")
  | ((with_reducible apply eg_or'); walk_at "ev"; walk_at "ev")
  | ((with_reducible apply et_not); walk_at "ev")
  | ((with_reducible apply et_and'); walk_at "ev"; walk_at "ev")
  | ((with_reducible apply et_or'); walk_at "ev"; walk_at "ev")
  | ((with_reducible apply et_test); walk_at "ev")
  | ((with_reducible apply et_B); walk_at "ev")
  | with_reducible exact et_yes
  | ((with_reducible apply ekp_tup); walk_at "ev"; walk_at "ev")
  | ((with_reducible apply ekp_of); walk_at "ev")
  | ((with_reducible apply edt_own); rfl)
  | ((with_reducible apply EG.edt); walk_at "ev")
  | ((with_reducible apply edk_own); rfl)
  | ((with_reducible apply EG.edk); walk_at "ev")
  | ((with_reducible apply ex_own); rfl)
  | ((with_reducible apply EX.el); (with_reducible apply ex_own); rfl)
  | ((with_reducible apply EG.el); walk_at "ev")
  | ((with_reducible apply EG.scr); walk_at "ev")
  | ((with_reducible apply EG.ef); walk_at "ev")
  | ((with_reducible apply EG.ex); walk_at "ev")
  | ((with_reducible apply EX.el); (with_reducible apply EN.ex); walk_at "ev")
  | ((with_reducible apply EN.ex); walk_at "ev")
  | ((with_reducible apply eb_see); rfl)
  | ((with_reducible apply eb_own); rfl)
  | ((with_reducible apply eb_of); walk_at "ev")
  | with_reducible exact ea_nil
  | ((with_reducible apply ea_is); walk_at "ev"; walk_at "ev")
  | ((with_reducible apply ea_see); walk_at "ev"; walk_at "ev")
  | with_reducible exact eas_nil
  | ((with_reducible apply eas_cons); walk_at "ev"; walk_at "ev")
  | ((with_reducible apply en_lst); walk_at "ev"; exact Nat.le_of_ble_eq_true rfl)
  | ((with_reducible apply en_list); walk_at "ev")
  | with_reducible exact en_dK
  | with_reducible exact en_dT
  | ((with_reducible apply eg_size); walk_at "ev"; exact Txt.cl (by assumption); exact Txt.nS (by assumption))
  | ((with_reducible apply edt_costs); walk_at "ev"; exact Txt.cl (by assumption); exact Txt.nC (by assumption)))
local macro_rules | `(tactic| walk_at "side") => `(tactic| first
  | exact ⟨by decide, by decide⟩
  | exact .inr ⟨by decide, by decide⟩
  | exact .inl ⟨by decide, by decide⟩
  | decide
  | omega
  | (show (0 : Int) < _; omega))
local macro_rules | `(tactic| walk_at "nz") => `(tactic| (try dsimp only [entS] at *))
local macro_rules | `(tactic| walk_at "ev") => `(tactic| first
  | ((with_reducible apply eg_many); walk_at "ev")
  | ((with_reducible apply en_hear); walk_at "ev"; assumption))
section
variable {P : Program} {w : World} {K : PySem.W.Frag} {mg : Str → Option Value} {base : Heap}
/-! ### what a law draws -/
abbrev spCell (K : PySem.W.Frag) : Sp := Pm (fun a : List Int × Int => [.is (aScr K) a.1, .is aI a.2]) (fun a => .ret aI (cellV a.1 a.2)) fun a => a.1.length ≤ 63 ∧ 0 ≤ a.2
abbrev s_w_cell_at : Stmt := top 33
abbrev N_w_cell_at : List Str := ["script", "k"]
abbrev P_w_cell_at : List Str := ["script", "k"]
theorem sc_w_cell_at : FnScope N_w_cell_at P_w_cell_at (defScope s_w_cell_at) := ⟨rfl, rfl, rfl, by decide +kernel, rfl, by decide +kernel, by decide +kernel⟩

theorem ok_w_cell_at {f : Addr} {fd : FuncData} (F : FunX K "_law_cell_at" "_law_cell_at" s_w_cell_at f fd) (T : Txt K mg) : FnOk P w K mg base (L2.CX P w) 1 f fd P_w_cell_at (spCell K) := by
  refine okP F sc_w_cell_at (fun _ => rfl) fun cdv A outer s H Q E ⟨l, k⟩ A0 hr ⟨hl, hk⟩ hS => ?_
  refine ⟨_, (pss_cons (ps_if (pt_cmpR op_lt (pv 1) (pe_callB (qb_len (K := K) rfl) (by rfl) T.b_len (by decide +kernel) (pa_cons (pv 0) pa_nil)) (nomark _))
  (pss_one (ps_ret (pe_ix (qx_list (K := K) rfl) (pv 0) (pv 1) (fun _ _ => rfl))))
  pss_nil)
  (pss_one (ps_ret pe_int))), ?_⟩
  walk_at "nz"
  unfold cellV at hS
  refine t_if (b := decide (k < (l.length : Int))) (et_test (eg_Ib (g := fun i j => decide (i < j)) (by walk_at "ev") (eg_len (EG.scr (by walk_at "ev"))))) (fun e => ?_) (fun e => t_go ?_)
  · have e' : k < (l.length : Int) := of_decide_eq_true e
    have g : l[k.toNat]? = some ((l[k.toNat]?).getD 0) := by
      rw [List.getElem?_eq_getElem (by omega)]; rfl
    exact t_ret (eg_ixL (EG.scr (by walk_at "ev")) (by walk_at "ev") (at_of hk g)) hS
  · have e' : ¬ k < (l.length : Int) := of_decide_eq_false e
    rw [List.getElem?_eq_none (by omega)] at hS
    exact t_ret eg_int hS
theorem eg_cell {c : Cw} {Γ : List Spec} {ta tb : TE} {s : List Int} {k : Int} {E : XK} (h : EG c Γ ta (aScr K) s) (h2 : EG c Γ tb aI k) (hs : s.length ≤ 63) (hk : 0 ≤ k) : EG c Γ (tCall (spCell K) [] E (tCons ta (tCons tb tNil))) aI (cellV s k) := eg_call (s, k) (ea_is h (ea_is h2 ea_nil)) ⟨hs, hk⟩ rfl
abbrev spWhole : Sp := Pm (fun v : V => [.is aV v]) (fun v => .ret aB (wholeB v)) Scal4
abbrev s_w_whole : Stmt := top 34
abbrev N_w_whole : List Str := ["found"]
abbrev P_w_whole : List Str := ["found"]
theorem sc_w_whole : FnScope N_w_whole P_w_whole (defScope s_w_whole) := ⟨rfl, rfl, rfl, by decide +kernel, rfl, by decide +kernel, by decide +kernel⟩

theorem ok_w_whole {f : Addr} {fd : FuncData} (F : FunX K "_law_whole" "_law_whole" s_w_whole f fd) (T : Txt K mg) : FnOk P w K mg base (L2.CX P w) 1 f fd P_w_whole spWhole := by
  refine okP F sc_w_whole (fun _ => rfl) fun cdv A outer s H Q E v A0 hr hv hS => ?_
  refine ⟨_, (pss_one (ps_ret (pe_and (pe_callB (qb_isi (K := K) rfl) (by rfl) T.b_isinstance (by decide +kernel) (pa_cons (pv 0) (pa_cons (pe_bltn (v := .ty "int") (by rfl) T.b_int (by decide +kernel) rfl) pa_nil))) (pe_one (pe_not (pe_callB (qb_isi (K := K) rfl) (by rfl) T.b_isinstance (by decide +kernel) (pa_cons (pv 0) (pa_cons (pe_bltn (v := .ty "bool") (by rfl) T.b_bool (by decide +kernel) rfl) pa_nil)))))))), ?_⟩
  walk_at "nz"
  cases v with
  | int i => exact t_ret (x := true && !false) (eg_and' (eg_isi (tn := "int") (by walk_at "ev") (fun _ _ => .base (.int i)) (fun _ => rfl)) (eg_not (eg_isi (tn := "int") (by walk_at "ev") (fun _ _ => .base (.int i)) (fun _ => rfl)))) hS
  | bl i => exact t_ret (x := true && !true) (eg_and' (eg_isi (tn := "bool") (by walk_at "ev") (fun _ _ => .base (.bl i)) (fun _ => rfl)) (eg_not (eg_isi (tn := "bool") (by walk_at "ev") (fun _ _ => .base (.bl i)) (fun _ => rfl)))) hS
  | non => exact t_ret (x := false && !false) (eg_and' (eg_isi (tn := "NoneType") (by walk_at "ev") (fun _ _ => .base .non) (fun _ => rfl)) (eg_not (eg_isi (tn := "NoneType") (by walk_at "ev") (fun _ _ => .base .non) (fun _ => rfl)))) hS
  | str i => exact t_ret (x := false && !false) (eg_and' (eg_isi (tn := "str") (by walk_at "ev") (fun _ _ => .base (.str i)) (fun _ => rfl)) (eg_not (eg_isi (tn := "str") (by walk_at "ev") (fun _ _ => .base (.str i)) (fun _ => rfl)))) hS
  | byt b => exact hv.elim
  | flt b => exact hv.elim
  | ref b => exact hv.elim
  | ty b => exact hv.elim
theorem eg_wholeI {c : Cw} {Γ : List Spec} {ta : TE} {i : Int} {E : XK} (h : EG c Γ ta aI i) : EG c Γ (tCall spWhole [] E (tCons ta tNil)) aB true := eg_call (V.int i) (ea_is (τ := aV) (x := V.int i) h ea_nil) trivial rfl
theorem eg_wholeO {c : Cw} {Γ : List Spec} {ta : TE} {o : Option Int} {E : XK} (h : EG c Γ ta aO o) : EG c Γ (tCall spWhole [] E (tCons ta tNil)) aB o.isSome := eg_call (optV o) (ea_is (τ := aV) (x := optV o) h ea_nil) (by cases o <;> trivial) (by cases o <;> rfl)
theorem eg_wholeB {c : Cw} {Γ : List Spec} {ta : TE} {i : Bool} {E : XK} (h : EG c Γ ta aB i) : EG c Γ (tCall spWhole [] E (tCons ta tNil)) aB false := eg_call (V.bl i) (ea_is (τ := aV) (x := V.bl i) h ea_nil) trivial rfl
abbrev spMix : Sp := Pm (fun a : Int × Int => [.is aI a.1, .is aI a.2]) (fun a => .ret aI (mixV a.1 a.2)) fun _ => True
abbrev s_w_mix : Stmt := top 35
abbrev N_w_mix : List Str := ["cell", "k", "seed"]
abbrev P_w_mix : List Str := ["cell", "k"]
theorem sc_w_mix : FnScope N_w_mix P_w_mix (defScope s_w_mix) := ⟨rfl, rfl, rfl, by decide +kernel, rfl, by decide +kernel, by decide +kernel⟩

theorem ok_w_mix {f : Addr} {fd : FuncData} (F : FunX K "_law_mix" "_law_mix" s_w_mix f fd) (T : Txt K mg) : FnOk P w K mg base (L2.CX P w) 1 f fd P_w_mix spMix := by
  refine okP F sc_w_mix (fun _ => rfl) fun cdv A outer s H Q E ⟨c, k⟩ A0 hr hv hS => ?_
  refine ⟨_, (pss_cons (ps_set (i := 2) sc_w_mix.nd rfl (Or.inl rfl) (pe_op op_mod (pe_op op_add (pe_op op_add (pe_op op_mul (pv 0) pe_int) (pe_op op_mul pe_int (pv 1))) pe_int) pe_int))
  (pss_cons (ps_set (i := 2) sc_w_mix.nd rfl (Or.inl rfl) (pe_op op_mod (pe_op op_add (pe_op op_add (pe_op op_mul (pv 2) (pv 2)) (pe_op op_mul pe_int (pv 1))) pe_int) pe_int))
  (pss_one (ps_ret (pe_op op_mod (pe_op op_mul (pv 2) (pv 2)) pe_int))))), ?_⟩
  walk_at "nz"
  have c1 : ∀ x : Int, CMul x 48271 := fun x => .inr ⟨by decide, by decide⟩
  have c2 : ∀ x : Int, CMul 104729 x := fun x => .inl ⟨by decide, by decide⟩
  have c3 : ∀ x : Int, CMul 7919 x := fun x => .inl ⟨by decide, by decide⟩
  have c4 : ∀ x m : Int, 0 < m → m < 2147483648 → CMul (x % m) (x % m) := fun x m h1 h2 => .inl ⟨by have := Int.emod_nonneg x (show m ≠ 0 by omega); omega, by have := Int.emod_lt_of_pos x h1; omega⟩
  refine t_asg (eg_Ic (eg_Ii (eg_Ii (eg_Ic (by walk_at "ev") eg_int (c1 _)) (eg_Ic eg_int (by walk_at "ev") (c2 _))) eg_int) eg_int (by decide)) ?_
  refine t_asg (eg_Ic (eg_Ii (eg_Ii (eg_Ic (by walk_at "ev") (by walk_at "ev") (c4 _ _ (by decide) (by decide))) (eg_Ic eg_int (by walk_at "ev") (c3 _))) eg_int) eg_int (by decide)) ?_
  exact t_ret (eg_Ic (eg_Ic (by walk_at "ev") (by walk_at "ev") (c4 _ _ (by decide) (by decide))) eg_int (by decide)) hS
theorem eg_mix {c : Cw} {Γ : List Spec} {ta tb : TE} {a k : Int} {E : XK} (h : EG c Γ ta aI a) (h2 : EG c Γ tb aI k) : EG c Γ (tCall spMix [] E (tCons ta (tCons tb tNil))) aI (mixV a k) := eg_call (a, k) (ea_is h (ea_is h2 ea_nil)) trivial rfl

end
section
variable {P : Program} {w : World} {K : PySem.W.Frag} {mg : Str → Option Value} {base : Heap}
abbrev spRows (K : PySem.W.Frag) : Sp := Pm (fun a : List Int × Int => [.is (aScr K) a.1, .is aI a.2]) (fun a => .new (oL aRow) (rowsV a.1 a.2)) fun a => a.1.length ≤ 63 ∧ 1 ≤ a.2 ∧ a.2 ≤ 12
abbrev s_w_rows : Stmt := top 36
abbrev N_w_rows : List Str := ["script", "many", "share", "most", "rows", "one", "other", "cell", "drawn"]
abbrev P_w_rows : List Str := ["script", "many"]
theorem sc_w_rows : FnScope N_w_rows P_w_rows (defScope s_w_rows) := ⟨rfl, rfl, rfl, by decide +kernel, rfl, by decide +kernel, by decide +kernel⟩

theorem ok_w_rows {f : Addr} {fd : FuncData} (F : FunX K "_law_rows" "_law_rows" s_w_rows f fd) (T : Txt K mg) (c_w_cell_at : Cal P w K mg base 1 "_law_cell_at" (spCell K)) (c_w_mix : Cal P w K mg base 1 "_law_mix" spMix) : FnOk P w K mg base (L2.CX P w) 2 f fd P_w_rows (spRows K) := by
  refine okP F sc_w_rows (fun _ => rfl) fun cdv A outer s H Q E ⟨l, n⟩ A0 hr ⟨hl, n1, n2⟩ hS => ?_
  refine ⟨_, (pss_cons (ps_set (i := 2) sc_w_rows.nd rfl (Or.inl rfl) (pe_ix (qx_list (K := K) rfl) (pe_lst (pa_cons pe_int (pa_cons pe_int (pa_cons pe_int (pa_cons pe_int (pa_cons pe_int pa_nil)))))) (pe_op op_mod (pe_cN c_w_cell_at hr (by first | decide | omega) rfl (pa_cons (pv 0) (pa_cons pe_int pa_nil))) pe_int) (fun _ _ => rfl)))
  (pss_cons (ps_set (i := 3) sc_w_rows.nd rfl (Or.inl rfl) (pe_ix (qx_list (K := K) rfl) (pe_lst (pa_cons pe_int (pa_cons pe_int (pa_cons pe_int pa_nil)))) (pe_op op_mod (pe_op op_fdiv (pe_cN c_w_cell_at hr (by first | decide | omega) rfl (pa_cons (pv 0) (pa_cons pe_int pa_nil))) pe_int) pe_int) (fun _ _ => rfl)))
  (pss_cons (ps_set (i := 4) sc_w_rows.nd rfl (Or.inl rfl) (pe_lst pa_nil))
  (pss_cons (ps_for PassesOwn.never rfl (pi_range1 rfl T.b_range (pa_cons (pv 1) pa_nil)) (pg_name (i := 5) sc_w_rows.nd rfl (Or.inl rfl))
  (pss_one (ps_for PassesOwn.never rfl (pi_range2 rfl T.b_range (pa_cons pe_int (pa_cons (pv 1) pa_nil))) (pg_name (i := 6) sc_w_rows.nd rfl (Or.inl rfl))
  (pss_cons (ps_set (i := 7) sc_w_rows.nd rfl (Or.inl rfl) (pe_op op_add (pe_cN c_w_cell_at hr (by first | decide | omega) rfl (pa_cons (pv 0) (pa_cons (pe_op op_add pe_int (pe_op op_mod (pe_op op_add (pe_op op_mul pe_int (pv 5)) (pv 6)) pe_int)) pa_nil))) (pe_op op_mul pe_int (pv 5))))
  (pss_cons (ps_set (i := 8) sc_w_rows.nd rfl (Or.inl rfl) (pe_op op_fdiv (pe_cN c_w_mix hr (by first | decide | omega) rfl (pa_cons (pv 7) (pa_cons (pv 6) pa_nil))) pe_int))
  (pss_one (ps_if (PW.pt (pw_and (pt_cmpR op_ne (pv 5) (pv 6) (nomark _)) (pw_and1 (pt_cmpR op_lt (pe_op op_mod (pv 8) pe_int) (pv 2) (nomark _)))))
  (pss_one (ps_expr (qe_bm (K := K) rfl PySem.F.plainAttrs_list PySem.F.slot_list_append PySem.F.type_list_append mt_append (pv 4) (pa_cons (pe_tup (pa_cons (pv 5) (pa_cons (pv 6) (pa_cons (pe_op op_mod (pe_op op_fdiv (pv 8) pe_int) (pv 3)) pa_nil)))) pa_nil))))
  pss_nil)))))))
  (pss_one (ps_ret (pv 4))))))), ?_⟩
  walk_at "nz"
  have s1 : 0 ≤ cellV l 1 % 5 := Int.emod_nonneg _ (by decide)
  have s2 : cellV l 1 % 5 < 5 := Int.emod_lt_of_pos _ (by decide)
  have m1 : 0 ≤ cellV l 1 / 5 % 3 := Int.emod_nonneg _ (by decide)
  have m2 : cellV l 1 / 5 % 3 < 3 := Int.emod_lt_of_pos _ (by decide)
  refine t_asg (x := shareV l) (eg_ixL (EX.el (EN.ex (en_lst (l := [2, 4, 6, 8, 10]) (eas_cons eg_int (eas_cons eg_int (eas_cons eg_int (eas_cons eg_int (eas_cons eg_int eas_nil))))) (by decide)))) (eg_Ic (g := fun i j => i % j) (eg_cell (by walk_at "ev") eg_int hl (by decide)) eg_int (by decide)) (at_of s1 ?_)) ?_
  · unfold shareV
    have : (cellV l 1 % 5).toNat < 5 := by omega
    generalize (cellV l 1 % 5).toNat = j at this
    match j, this with
    | 0, _ => rfl
    | 1, _ => rfl
    | 2, _ => rfl
    | 3, _ => rfl
    | 4, _ => rfl
  refine t_asg (x := mostV l) (eg_ixL (EX.el (EN.ex (en_lst (l := [8, 40, 1000001]) (eas_cons eg_int (eas_cons eg_int (eas_cons eg_int eas_nil))) (by decide)))) (eg_Ic (g := fun i j => i % j) (eg_Ic (g := fun i j => i / j) (eg_cell (by walk_at "ev") eg_int hl (by decide)) eg_int ⟨by decide, by decide⟩) eg_int (by decide)) (at_of m1 ?_)) ?_
  · unfold mostV
    have : (cellV l 1 / 5 % 3).toNat < 3 := by omega
    generalize (cellV l 1 / 5 % 3).toNat = j at this
    match j, this with
    | 0, _ => rfl
    | 1, _ => rfl
    | 2, _ => rfl
  refine t_new (κ := oL aRow) (x := []) (by walk_at "ev") ?_
  refine t_forR (n := n) (fun i => [.is (aScr K) l, .is aI n, .is aI (shareV l), .is aI (mostV l), .own (oL aRow) (rowsN l n i), .any, .any, .any, .any]) (fun _ => True) (by walk_at "ev") (by omega) ⟨.inr rfl, .inr rfl, .inr rfl, .inr rfl, .inr rfl, .inl rfl, .inl rfl, .inl rfl, .inl rfl, trivial⟩ trivial (fun i hi _ => ?_) (fun _ => ?_)
  · refine t_one (t_forR2 (a := 1) (n := n) (fun j => [.is (aScr K) l, .is aI n, .is aI (shareV l), .is aI (mostV l), .own (oL aRow) (rowsN l n i ++ rowsA l (i : Int) j), .is aI (i : Int), .any, .any, .any]) (fun _ => True) eg_int (by walk_at "ev") (by omega) ⟨.inr rfl, .inr rfl, .inr rfl, .inr rfl, .inr ?_, .inr rfl, .inl rfl, .inl rfl, .inl rfl, trivial⟩ trivial (fun j hj _ => ?_) (fun _ => ?_))
    · show _ = Spec.own _ (rowsN l n i ++ [])
      rw [List.append_nil]
    · refine t_asg (eg_Ii (eg_cell (by walk_at "ev") (eg_Ii eg_int (eg_Ic (g := fun i j => i % j) (eg_Ii (eg_Ic (g := fun i j => i * j) eg_int (by walk_at "ev") (.inl ⟨by decide, by decide⟩)) (by walk_at "ev")) eg_int (by decide))) hl (by have := Int.emod_nonneg (5 * (i : Int) + (1 + (j : Int))) (show (30 : Int) ≠ 0 by decide); omega)) (eg_Ic (g := fun i j => i * j) eg_int (by walk_at "ev") (.inl ⟨by decide, by decide⟩))) ?_
      refine t_asg (x := drawnV l (i : Int) (1 + (j : Int))) (eg_Ic (g := fun i j => i / j) (eg_mix (by walk_at "ev") (by walk_at "ev")) eg_int ⟨by decide, by decide⟩) ?_
      refine t_one (t_if (b := rowT l (i : Int) (1 + (j : Int))) (et_and' (et_test (eg_neI (by walk_at "ev") (by walk_at "ev"))) (et_test (eg_Ib (g := fun i j => decide (i < j)) (eg_Ic (g := fun i j => i % j) (by walk_at "ev") eg_int (by decide)) (by walk_at "ev")))) (fun e => ?_) (fun e => t_go ?_))
      · refine t_one (t_dropM (em_app (x := rowV l (i : Int) (1 + (j : Int))) rfl (eg_tup3 (by walk_at "ev") (by walk_at "ev") (eg_Ic (D := fun _ j => 0 < j) (g := fun i j => i % j) (eg_Ic (g := fun i j => i / j) (by walk_at "ev") eg_int ⟨by decide, by decide⟩) (by walk_at "ev") (mostV_pos l))) ?_) ?_)
        · have h1 := rowsN_len l n i
          have h2 : i * (n - 1).toNat ≤ 12 * 12 := Nat.mul_le_mul (by omega) (by omega)
          have h3 : (rowsA l (i : Int) j).length ≤ j := by
            unfold rowsA
            rw [List.length_map]
            exact Nat.le_trans (List.length_filter_le _ _) (by rw [List.length_range]; exact Nat.le_refl _)
          rw [List.length_append]
          omega
        · refine t_end ⟨.inr rfl, .inr rfl, .inr rfl, .inr rfl, .inr ?_, .inr rfl, .inl rfl, .inl rfl, .inl rfl, trivial⟩ trivial
          rw [rowsA_succ, if_pos e, List.append_assoc]
      · refine t_end ⟨.inr rfl, .inr rfl, .inr rfl, .inr rfl, .inr ?_, .inr rfl, .inl rfl, .inl rfl, .inl rfl, trivial⟩ trivial
        rw [rowsA_succ, if_neg (by rw [e]; decide), List.append_nil]
    · refine t_end ⟨.inr rfl, .inr rfl, .inr rfl, .inr rfl, .inr ?_, .inl rfl, .inl rfl, .inl rfl, .inl rfl, trivial⟩ trivial
      rw [rowsN_succ]
  · exact t_retO (i := 4) rfl (fun h => h) hS
theorem en_rowsW {c : Cw} {Γ : List Spec} {ta tb : TE} {s : List Int} {n : Int} {E : XK} (h : EG c Γ ta (aScr K) s) (h2 : EG c Γ tb aI n) (hs : s.length ≤ 63) (n1 : 1 ≤ n) (n2 : n ≤ 12) : EN c Γ (tCall (spRows K) [] E (tCons ta (tCons tb tNil))) (oL aRow) (rowsV s n) := en_call (s, n) (ea_is h (ea_is h2 ea_nil)) ⟨hs, n1, n2⟩ rfl

end
section
variable {P : Program} {w : World} {K : PySem.W.Frag} {mg : Str → Option Value} {base : Heap}
abbrev spBookW (K : PySem.W.Frag) : Sp := Pm (fun a : Int × List Rw3 => [.is aI a.1, .is (aL aRow) a.2]) (fun a => .new (oBk (CB K)) (a.1, asKvs a.2)) fun a => GoodR a.1 a.2
abbrev s_w_book : Stmt := top 37
abbrev N_w_book : List Str := ["many", "rows", "book", "row"]
abbrev P_w_book : List Str := ["many", "rows"]
theorem sc_w_book : FnScope N_w_book P_w_book (defScope s_w_book) := ⟨rfl, rfl, rfl, by decide +kernel, rfl, by decide +kernel, by decide +kernel⟩

theorem ok_w_book {f : Addr} {fd : FuncData} (F : FunX K "_law_book" "_law_book" s_w_book f fd) (T : Txt K mg) (c_Book : Mak P w K mg base 1 "Book" (CB K) (spInit K (CB K))) (c_B_let : Met P w K mg base 2 (CB K) "let" (spLet K (CB K))) : FnOk P w K mg base (L2.CX P w) 3 f fd P_w_book (spBookW K) := by
  refine okP F sc_w_book (fun _ => rfl) fun cdv A outer s H Q E ⟨n, rows⟩ A0 hr GR hS => ?_
  refine ⟨_, (pss_cons (ps_set (i := 2) sc_w_book.nd rfl (Or.inl rfl) (pe_mkC c_Book hr (by first | decide | omega) rfl (pa_cons (pv 0) pa_nil)))
  (pss_cons (ps_for PassesOwn.never rfl (qi_list (K := K) rfl (pv 1)) (pg_name (i := 3) sc_w_book.nd rfl (Or.inl rfl))
  (pss_one (ps_expr (pe_mN c_B_let hr (by first | decide | omega) (pv 2) (pa_cons (pe_ix (qx_tup (K := K) rfl) (pv 3) pe_int (fun _ _ => rfl)) (pa_cons (pe_ix (qx_tup (K := K) rfl) (pv 3) pe_int (fun _ _ => rfl)) (pa_cons (pe_ix (qx_tup (K := K) rfl) (pv 3) pe_int (fun _ _ => rfl)) pa_nil)))))))
  (pss_one (ps_ret (pv 2))))), ?_⟩
  walk_at "nz"
  have n1 := GR.n1
  have n2 := GR.n2
  have few := GR.few
  refine t_new (κ := oBk (CB K)) (x := (n, [])) (en_make (by walk_at "ev") ⟨n1, n2⟩) ?_
  refine t_forL (l := rows) (fun i => [.is aI n, .is (aL aRow) rows, .own (oBk (CB K)) (n, asKvs (rows.take i)), .any]) (fun _ => True) (by walk_at "ev") ⟨.inr rfl, .inr rfl, .inr rfl, .inl rfl, trivial⟩ trivial (fun i r hr' _ d hd => ?_) (fun _ => ?_)
  · have rg := GR.rg r (List.mem_of_getElem? hr')
    refine t_one (t_dropM (em_let rfl (by walk_at "ev") (by walk_at "ev") (by walk_at "ev") (askX_ok rg.1 rg.2.1 rg.2.2) ?_) ?_)
    · rw [asKvs_len, List.length_take]; omega
    · refine t_end ⟨.inr rfl, .inr rfl, .inr ?_, .inl rfl, trivial⟩ trivial
      rw [← asKvs_take (lt2_uq GR.srt) hr']
  · rw [List.take_length]
    exact t_retO rfl (fun h => h) hS
theorem en_bookW {c : Cw} {Γ : List Spec} {ta tb : TE} {n : Int} {rows : List Rw3} {E : XK} (h : EG c Γ ta aI n) (h2 : EG c Γ tb (aL aRow) rows) (G : GoodR n rows) : EN c Γ (tCall (spBookW K) [] E (tCons ta (tCons tb tNil))) (oBk (CB K)) (n, asKvs rows) := en_call (n, rows) (ea_is h (ea_is h2 ea_nil)) G rfl

end
end
section
local macro_rules | `(tactic| walk_at "ev") => `(tactic| first
  | ((with_reducible apply eg_var); rfl)
  | with_reducible exact eg_int
  | with_reducible exact eg_bl
  | with_reducible exact eg_str
  | with_reducible exact eg_non
  | ((with_reducible apply eg_Ii); walk_at "ev"; walk_at "ev")
  | ((with_reducible apply eg_Ib); walk_at "ev"; walk_at "ev")
  | ((with_reducible apply eg_Ic); walk_at "ev"; walk_at "ev"; walk_at "side")
  | ((with_reducible apply eg_un); walk_at "ev")
  | ((with_reducible apply eg_chain); walk_at "ev"; walk_at "ev"; walk_at "ev")
  | ((with_reducible apply eg_eqI); walk_at "ev"; walk_at "ev")
  | ((with_reducible apply eg_neI); walk_at "ev"; walk_at "ev")
  | ((with_reducible apply eg_eqS); walk_at "ev"; walk_at "ev")
  | ((with_reducible apply eg_neS); walk_at "ev"; walk_at "ev")
  | ((with_reducible apply eg_eqO); walk_at "ev"; walk_at "ev")
  | ((with_reducible apply eg_neO); walk_at "ev"; walk_at "ev")
  | ((with_reducible apply eg_isO); walk_at "ev")
  | ((with_reducible apply eg_notO); walk_at "ev")
  | ((with_reducible apply eg_isT objT3); walk_at "ev")
  | ((with_reducible apply eg_isT objL); walk_at "ev")
  | ((with_reducible apply eg_p0); walk_at "ev")
  | ((with_reducible apply eg_p1); walk_at "ev")
  | ((with_reducible apply eg_t0); walk_at "ev")
  | ((with_reducible apply eg_t1); walk_at "ev")
  | ((with_reducible apply eg_t2); walk_at "ev")
  | ((with_reducible apply eg_len (τ := aRow)); walk_at "ev")
  | ((with_reducible apply eg_len); walk_at "ev")
  | ((with_reducible apply eg_tup2); walk_at "ev"; walk_at "ev")
  | ((with_reducible apply eg_tup3); walk_at "ev"; walk_at "ev"; walk_at "ev")
  | ((with_reducible apply eg_in); walk_at "ev"; walk_at "ev")
  | ((with_reducible apply eg_nin); walk_at "ev"; walk_at "ev")
  | ((with_reducible apply eg_sum); walk_at "ev")
  | ((with_reducible apply eg_all); walk_at "ev")
  | ((with_reducible apply eg_max2); walk_at "ev"; walk_at "ev")
  | ((with_reducible apply eg_get1); walk_at "ev"; walk_at "ev")
  | ((with_reducible apply eg_din); walk_at "ev"; walk_at "ev")
  | ((with_reducible apply eg_dnin); walk_at "ev"; walk_at "ev")
  | ((with_reducible apply eg_lenT); walk_at "ev")
  | ((with_reducible apply eg_not); walk_at "ev")
  | ((with_reducible apply eg_and'); walk_at "ev"; walk_at "ev")
  | ((with_reducible apply eg_or'); walk_at "ev"; walk_at "ev")
  | ((with_reducible apply et_not); walk_at "ev")
  | ((with_reducible apply et_and'); walk_at "ev"; walk_at "ev")
  | ((with_reducible apply et_or'); walk_at "ev"; walk_at "ev")
  | ((with_reducible apply et_test); walk_at "ev")
  | ((with_reducible apply et_B); walk_at "ev")
  | with_reducible exact et_yes
  | ((with_reducible apply ekp_tup); walk_at "ev"; walk_at "ev")
  | ((with_reducible apply ekp_of); walk_at "ev")
  | ((with_reducible apply edt_own); rfl)
  | ((with_reducible apply EG.edt); walk_at "ev")
  | ((with_reducible apply edk_own); rfl)
  | ((with_reducible apply EG.edk); walk_at "ev")
  | ((with_reducible apply ex_own); rfl)
  | ((with_reducible apply EX.el); (with_reducible apply ex_own); rfl)
  | ((with_reducible apply EG.el); walk_at "ev")
  | ((with_reducible apply EG.scr); walk_at "ev")
  | ((with_reducible apply EG.ef); walk_at "ev")
  | ((with_reducible apply EG.ex); walk_at "ev")
  | ((with_reducible apply EX.el); (with_reducible apply EN.ex); walk_at "ev")
  | ((with_reducible apply EN.ex); walk_at "ev")
  | ((with_reducible apply eb_see); rfl)
  | ((with_reducible apply eb_own); rfl)
  | ((with_reducible apply eb_of); walk_at "ev")
  | with_reducible exact ea_nil
  | ((with_reducible apply ea_is); walk_at "ev"; walk_at "ev")
  | ((with_reducible apply ea_see); walk_at "ev"; walk_at "ev")
  | with_reducible exact eas_nil
  | ((with_reducible apply eas_cons); walk_at "ev"; walk_at "ev")
  | ((with_reducible apply en_lst); walk_at "ev"; exact Nat.le_of_ble_eq_true rfl)
  | ((with_reducible apply en_list); walk_at "ev")
  | with_reducible exact en_dK
  | with_reducible exact en_dT
  | ((with_reducible apply eg_size); walk_at "ev"; exact Txt.cl (by assumption); exact Txt.nS (by assumption))
  | ((with_reducible apply edt_costs); walk_at "ev"; exact Txt.cl (by assumption); exact Txt.nC (by assumption)))
local macro_rules | `(tactic| walk_at "side") => `(tactic| first
  | exact ⟨by decide, by decide⟩
  | exact .inr ⟨by decide, by decide⟩
  | exact .inl ⟨by decide, by decide⟩
  | decide
  | omega
  | (show (0 : Int) < _; omega))
local macro_rules | `(tactic| walk_at "nz") => `(tactic| (try dsimp only [entS] at *))
local macro_rules | `(tactic| walk_at "ev") => `(tactic| first
  | ((with_reducible apply eg_many); walk_at "ev")
  | ((with_reducible apply en_hear); walk_at "ev"; assumption))
section
variable {P : Program} {w : World} {K : PySem.W.Frag} {mg : Str → Option Value} {base : Heap}
/-! ### what a law looks at -/
abbrev spCosts : Sp := Pm (fun rows : List Rw3 => [.is (aL aRow) rows]) (fun rows => .new oDT (asKvs rows)) fun rows => Uq rows ∧ rows.length ≤ 1000
abbrev s_w_costs : Stmt := top 38
abbrev N_w_costs : List Str := ["rows", "found", "row"]
abbrev P_w_costs : List Str := ["rows"]
theorem sc_w_costs : FnScope N_w_costs P_w_costs (defScope s_w_costs) := ⟨rfl, rfl, rfl, by decide +kernel, rfl, by decide +kernel, by decide +kernel⟩

theorem ok_w_costs {f : Addr} {fd : FuncData} (F : FunX K "_law_costs" "_law_costs" s_w_costs f fd) (T : Txt K mg) : FnOk P w K mg base (L2.CX P w) 1 f fd P_w_costs spCosts := by
  refine okP F sc_w_costs (fun _ => rfl) fun cdv A outer s H Q E rows A0 hr ⟨u, hl⟩ hS => ?_
  have hu := hu_of hr
  refine ⟨_, (pss_cons (ps_set (i := 1) sc_w_costs.nd rfl (Or.inl rfl) pe_dnewT)
  (pss_cons (ps_for PassesOwn.never rfl (qi_list (K := K) rfl (pv 0)) (pg_name (i := 2) sc_w_costs.nd rfl (Or.inl rfl))
  (pss_one (qs_dput (pv 1) (pe_tup (pa_cons (pe_ix (qx_tup (K := K) rfl) (pv 2) pe_int (fun _ _ => rfl)) (pa_cons (pe_ix (qx_tup (K := K) rfl) (pv 2) pe_int (fun _ _ => rfl)) pa_nil))) (pe_ix (qx_tup (K := K) rfl) (pv 2) pe_int (fun _ _ => rfl)) rfl (by exact hu))))
  (pss_one (ps_ret (pv 1))))), ?_⟩
  walk_at "nz"
  refine t_new (κ := oDT) (x := []) (by walk_at "ev") ?_
  refine t_forL (l := rows) (fun i => [.is (aL aRow) rows, .own oDT (asKvs (rows.take i)), .any]) (fun _ => True) (by walk_at "ev") ⟨.inr rfl, .inr rfl, .inl rfl, trivial⟩ trivial (fun i r hr' _ d hd => ?_) (fun _ => ?_)
  · refine t_one (t_dputT (k := (r.1, r.2.1)) rfl (by walk_at "ev") (by walk_at "ev") ?_ ?_)
    · rw [asKvs_len, List.length_take]; omega
    refine t_end ⟨.inr rfl, .inr ?_, .inl rfl, trivial⟩ trivial
    rw [asKvs_take u hr']
  · rw [List.take_length]
    exact t_retO rfl (fun h => h) hS
theorem en_costs {c : Cw} {Γ : List Spec} {ta : TE} {rows : List Rw3} {E : XK} (h : EG c Γ ta (aL aRow) rows) (u : Uq rows) (hl : rows.length ≤ 1000) : EN c Γ (tCall spCosts [] E (tCons ta tNil)) oDT (asKvs rows) := en_call rows (ea_is h ea_nil) ⟨u, hl⟩ rfl
noncomputable abbrev spFamW : Sp := Pm (fun a : Fml × List Rw3 × Int => [.is aFam a.1, .is aDT (asKvs a.2.1), .is aI a.2.2]) (fun a => .ret aB (famB a.2.2 a.2.1 a.1)) fun a => RowsIn a.2.2 a.2.1 ∧ Uq a.2.1 ∧ (1 ≤ a.2.2 ∧ a.2.2 ≤ 12) ∧ a.1.length ≤ 1000
abbrev s_w_family : Stmt := top 39
abbrev N_w_family : List Str := ["found", "costs", "many", "teller", "here", "step"]
abbrev P_w_family : List Str := ["found", "costs", "many"]
theorem sc_w_family : FnScope N_w_family P_w_family (defScope s_w_family) := ⟨rfl, rfl, rfl, by decide +kernel, rfl, by decide +kernel, by decide +kernel⟩

theorem ok_w_family {f : Addr} {fd : FuncData} (F : FunX K "_law_family" "_law_family" s_w_family f fd) (T : Txt K mg) (c_w_whole : Cal P w K mg base 1 "_law_whole" spWhole) : FnOk P w K mg base (L2.CX P w) 2 f fd P_w_family spFamW := by
  refine okP F sc_w_family (fun _ => rfl) fun cdv A outer s H Q E ⟨fam, rows, n⟩ A0 hr ⟨R, u, ⟨n1, n2⟩, hl⟩ hS => ?_
  have hu := hu_of hr
  refine ⟨_, (pss_cons (ps_if (PW.pt (pw_or (pt_not (pt_val (pe_callB (qb_isi (K := K) rfl) (by rfl) T.b_isinstance (by decide +kernel) (pa_cons (pv 0) (pa_cons (pe_bltn (v := .ty "list") (by rfl) T.b_list (by decide +kernel) rfl) pa_nil))))) (pw_or (pt_cmpR op_ne (pe_callB (qb_len (K := K) rfl) (by rfl) T.b_len (by decide +kernel) (pa_cons (pv 0) pa_nil)) (pv 2) (nomark _)) (pw_or1 (pt_cmpR op_notN (pe_ix (qx_list (K := K) rfl) (pv 0) pe_int (fun _ _ => rfl)) pe_non (nomark _))))))
  (pss_one (ps_ret pe_bl))
  pss_nil)
  (pss_cons (ps_for PassesOwn.never rfl (pi_range2 rfl T.b_range (pa_cons pe_int (pa_cons (pv 2) pa_nil))) (pg_name (i := 3) sc_w_family.nd rfl (Or.inl rfl))
  (pss_one (ps_if (PW.pt (pw_or (pt_not (pt_val (pe_cN c_w_whole hr (by first | decide | omega) rfl (pa_cons (pe_ix (qx_list (K := K) rfl) (pv 0) (pv 3) (fun _ _ => rfl)) pa_nil)))) (pw_or1 (pt_cmp (qc_dnotin (pe_tup (pa_cons (pe_ix (qx_list (K := K) rfl) (pv 0) (pv 3) (fun _ _ => rfl)) (pa_cons (pv 3) pa_nil))) (pv 1) (by exact hu))))))
  (pss_one (ps_ret pe_bl))
  pss_nil)))
  (pss_cons (ps_for PassesOwn.never rfl (pi_range1 rfl T.b_range (pa_cons (pv 2) pa_nil)) (pg_name (i := 3) sc_w_family.nd rfl (Or.inl rfl))
  (pss_cons (ps_set (i := 4) sc_w_family.nd rfl (Or.inl rfl) (pv 3))
  (pss_cons (ps_for PassesOwn.never rfl (pi_range1 rfl T.b_range (pa_cons (pv 2) pa_nil)) (pg_name (i := 5) sc_w_family.nd rfl (Or.inl rfl))
  (pss_one (ps_if (pt_cmpR op_ne (pv 4) pe_int (nomark _))
  (pss_one (ps_set (i := 4) sc_w_family.nd rfl (Or.inl rfl) (pe_ix (qx_list (K := K) rfl) (pv 0) (pv 4) (fun _ _ => rfl))))
  pss_nil)))
  (pss_one (ps_if (pt_cmpR op_ne (pv 4) pe_int (nomark _))
  (pss_one (ps_ret pe_bl))
  pss_nil)))))
  (pss_one (ps_ret pe_bl))))), ?_⟩
  walk_at "nz"
  have no : ∀ {c : Cw} {Γ : List Spec} {D : Ends}, ¬ IsFam n rows fam → (∀ v H', RetIs c aB (famB n rows fam) v H' → D.rt v H') → Tr c Γ (tRet (tC (.bl false))) D := fun {c Γ D} h q => by
    rw [famB_false.mpr h] at q
    exact t_ret eg_bl q
  refine t_if (b := (!true) || ((!decide ((fam.length : Int) = n)) || ((fam[0]?).getD none).isSome)) (et_or' (et_not (et_test (eg_isiT (τ := aFam) (x := fam) kd_L (by walk_at "ev") (fun _ => rfl)))) (et_or (by walk_at "ev") fun e => ?_)) (fun e => ?_) (fun e => t_go ?_)
  · have hl' : (fam.length : Int) = n := by simpa using e
    have h0 : fam[0]? = some ((fam[0]?).getD none) := by
      rw [List.getElem?_eq_getElem (by omega)]; rfl
    exact et_test (eg_notO (eg_ixL (by walk_at "ev") (by walk_at "ev") (at_of (by omega) h0)))
  · refine no (fun I => ?_) hS
    have r := I.root
    have l := I.len
    rw [r] at e
    simp [l] at e
  have e' : (fam.length : Int) = n ∧ (fam[0]?).getD none = none := by simpa using e
  have h0 : fam[0]? = some none := by
    rw [← e'.2, List.getElem?_eq_getElem (by omega)]; rfl
  refine t_forR2 (a := 1) (n := n) (fun i => [.is aFam fam, .is aDT (asKvs rows), .is aI n, .any, .any, .any]) (fun i => ∀ t : Int, 1 ≤ t → t < 1 + (i : Int) → ∃ a, fam[t.toNat]? = some (some a) ∧ hasR rows a t) (by walk_at "ev") (by walk_at "ev") (by omega) ⟨.inr rfl, .inr rfl, .inr rfl, .inl rfl, .inl rfl, .inl rfl, trivial⟩ (fun t a b => by omega) (fun i hi ih => ?_) (fun ih => ?_)
  · have hlt : (1 + (i : Int)).toNat < fam.length := by omega
    have g : fam[(1 + (i : Int)).toNat]? = some (fam[(1 + (i : Int)).toNat]) := List.getElem?_eq_getElem hlt
    generalize fam[(1 + (i : Int)).toNat] = o at g
    refine t_one (t_if (b := (!o.isSome) || !(getP (asKvs rows) (o.getD 0, 1 + (i : Int))).isSome) (et_or (et_not (et_test (eg_wholeO (eg_ixL (by walk_at "ev") (by walk_at "ev") (at_of (by omega) g))))) (fun e2 => ?_)) (fun e2 => ?_) (fun e2 => t_go ?_))
    · cases o with
      | none => cases e2
      | some a => exact et_test (eg_dnin (ekp_tup (EG.int (eg_ixL (by walk_at "ev") (by walk_at "ev") (at_of (by omega) g))) (by walk_at "ev")) (by walk_at "ev"))
    · refine no (fun I => ?_) hS
      obtain ⟨b, hb, hh⟩ := I.hear (1 + (i : Int)) (by omega) (by omega)
      rw [g] at hb
      cases Option.some.inj hb
      have := (getP_has u).mpr hh
      simp [this] at e2
    · cases o with
      | none => simp at e2
      | some a =>
        have h2 : (getP (asKvs rows) (a, 1 + (i : Int))).isSome = true := by simpa using e2
        refine t_end ⟨.inr rfl, .inr rfl, .inr rfl, .inl rfl, .inl rfl, .inl rfl, trivial⟩ fun t a' b' => ?_
        by_cases q : t < 1 + (i : Int)
        · exact ih t a' q
        · have : t = 1 + (i : Int) := by omega
          rw [this]
          exact ⟨a, g, (getP_has u).mp h2⟩
  obtain ⟨U, hI⟩ := isFam_iff R e'.1 h0 fun t a b => ih t a (by omega)
  have en : fam.length = n.toNat := by omega
  refine t_forR (n := n) (fun i => [.is aFam fam, .is aDT (asKvs rows), .is aI n, .any, .any, .any]) (fun i => ∀ t : Int, 0 ≤ t → t < (i : Int) → up fam fam.length t = 0) (by walk_at "ev") (by omega) ⟨.inr rfl, .inr rfl, .inr rfl, .inl rfl, .inl rfl, .inl rfl, trivial⟩ (fun t a b => by omega) (fun i hi ih2 => ?_) (fun ih2 => ?_)
  · refine t_asg (x := (i : Int)) (by walk_at "ev") ?_
    refine t_forR (n := n) (fun j => [.is aFam fam, .is aDT (asKvs rows), .is aI n, .is aI (i : Int), .is aI (up fam j (i : Int)), .any]) (fun _ => True) (by walk_at "ev") (by omega) ⟨.inr rfl, .inr rfl, .inr rfl, .inr rfl, .inr rfl, .inl rfl, trivial⟩ trivial (fun j hj _ => ?_) (fun _ => ?_)
    · have rg := U.rng (show (0 : Int) ≤ (i : Int) by omega) (by omega) j
      have e2 : up fam (j + 1) (i : Int) = HW.par fam (up fam j (i : Int)) := up_add fam j 1 _
      refine t_one (t_if (b := !decide (up fam j (i : Int) = 0)) (by walk_at "ev") (fun e3 => ?_) (fun e3 => t_go ?_))
      · have n0 : up fam j (i : Int) ≠ 0 := by simpa using e3
        have q := U.par (t := up fam j (i : Int)) (by omega) rg.2
        refine t_one (t_asg (EG.int (eg_ixL (by walk_at "ev") (by walk_at "ev") (at_of rg.1 q.1))) ?_)
        exact t_end ⟨.inr rfl, .inr rfl, .inr rfl, .inr rfl, .inr (by rw [e2]), .inl rfl, trivial⟩ trivial
      · have z0 : up fam j (i : Int) = 0 := by simpa using e3
        exact t_end ⟨.inr rfl, .inr rfl, .inr rfl, .inr rfl, .inr (by rw [e2, z0, HW.par_zero]), .inl rfl, trivial⟩ trivial
    · refine t_one (t_if (b := !decide (up fam n.toNat (i : Int) = 0)) (by walk_at "ev") (fun e3 => ?_) (fun e3 => t_go ?_))
      · refine no (fun I => ?_) hS
        have := I.lead (i : Int) (by omega) hi
        simp [this] at e3
      · refine t_end ⟨.inr rfl, .inr rfl, .inr rfl, .inl rfl, .inl rfl, .inl rfl, trivial⟩ fun t a' b' => ?_
        by_cases q : t < (i : Int)
        · exact ih2 t a' q
        · have : t = (i : Int) := by omega
          rw [this, en]
          simpa using e3
  · rw [famB_true.mpr (hI.mpr fun t a b => ih2 t a (by omega))] at hS
    exact t_ret eg_bl hS
theorem eg_familyW {c : Cw} {Γ : List Spec} {ta tb tc : TE} {n : Int} {rows : List Rw3} {fam : Fml} {E : XK} (h : EGH c Γ ta aFam fam) (h1 : EG c Γ tb aDT (asKvs rows)) (h2 : EG c Γ tc aI n) (G : GoodR n rows) (hl : fam.length ≤ 1000) :
    EG c Γ (tCall spFamW [] E (tCons ta (tCons tb (tCons tc tNil)))) aB (famB n rows fam) := eg_callH flat_M (fam, rows, n) (eah_is h (eah_is h1.now (eah_is h2.now eah_nil))) ⟨G.rin, lt2_uq G.srt, ⟨G.n1, G.n2⟩, hl⟩ rfl
noncomputable abbrev spWorthW : Sp := Pm (fun a : Fml × List Rw3 × Int => [.is aFam a.1, .is aDT (asKvs a.2.1)]) (fun a => .ret aI (HW.worth a.2.2 a.2.1 a.1)) fun a => RowsIn a.2.2 a.2.1 ∧ Uq a.2.1 ∧ IsFam a.2.2 a.2.1 a.1 ∧ (1 ≤ a.2.2 ∧ a.2.2 ≤ 12)
abbrev s_w_worth : Stmt := top 40
abbrev N_w_worth : List Str := ["family", "costs", "teller"]
abbrev P_w_worth : List Str := ["family", "costs"]
theorem sc_w_worth : FnScope N_w_worth P_w_worth (defScope s_w_worth) := ⟨rfl, rfl, rfl, by decide +kernel, rfl, by decide +kernel, by decide +kernel⟩

theorem ok_w_worth {f : Addr} {fd : FuncData} (F : FunX K "_law_worth" "_law_worth" s_w_worth f fd) (T : Txt K mg) : FnOk P w K mg base (L2.CX P w) 1 f fd P_w_worth spWorthW := by
  refine okP F sc_w_worth (fun _ => rfl) fun cdv A outer s H Q E ⟨fam, rows, n⟩ A0 hr ⟨R, u, I, n1, n2⟩ hS => ?_
  have hu := hu_of hr
  refine ⟨_, (pss_one (ps_ret (pe_callB (qb_sum (K := K) rfl rfl) (by rfl) T.b_sum (by decide +kernel) (pa_cons (qe_lc (x := "teller") (j := 2) (tt := tYes) rfl sc_w_worth.nd (pi_range2 rfl T.b_range (pa_cons pe_int (pa_cons (pe_callB (qb_len (K := K) rfl) (by rfl) T.b_len (by decide +kernel) (pa_cons (pv 0) pa_nil)) pa_nil))) (blkOk_by (N := N_w_worth) (sc := defScope s_w_worth) (by decide +kernel)) (fun _ _ _ _ _ => pg_name (i := 2) sc_w_worth.nd rfl (Or.inl rfl)) (fun _ _ _ _ _ => by exact pts_nil) (fun _ _ _ _ _ => by exact (qe_dget (pv 1) (pe_tup (pa_cons (pe_ix (qx_list (K := K) rfl) (pv 0) (pv 2) (fun _ _ => rfl)) (pa_cons (pv 2) pa_nil))) (fun _ _ => rfl) (by exact hu)))) pa_nil)))), ?_⟩
  walk_at "nz"
  have ln := I.len
  refine t_ret (x := (((List.range ((fam.length : Int) - 1).toNat).filter fun _ => true).map fun i : Nat => costR rows (HW.par fam (1 + (i : Int))) (1 + (i : Int))).sum) (eg_sum (EX.el (EN.ex (en_lcR2 (fun _ => true) (fun i => costR rows (HW.par fam (1 + (i : Int))) (1 + (i : Int))) eg_int (by walk_at "ev") (by omega) (fun i hi => et_yes) fun i hi _ => ?_)))) ?_
  · have pg := I.par_get (t := 1 + (i : Int)) (by omega) (by omega)
    obtain ⟨c, hc⟩ := I.par_of (t := 1 + (i : Int)) (by omega) (by omega)
    have gp : getP (asKvs rows) (HW.par fam (1 + (i : Int)), 1 + (i : Int)) = some c := (getP_as u).mpr hc
    rw [costR_of R.uq hc]
    exact eg_dgetT (by walk_at "ev") (ekp_tup (EG.int (eg_ixL (by walk_at "ev") (by walk_at "ev") (at_of (by omega) pg))) (by walk_at "ev")) gp
  have e2 : (((List.range ((fam.length : Int) - 1).toNat).filter fun _ => true).map fun i : Nat => costR rows (HW.par fam (1 + (i : Int))) (1 + (i : Int))).sum = HW.worth n rows fam := by
    unfold HW.worth tellers
    rw [tot_map, ← tot_sum, filter_yes]
    have : ((fam.length : Int) - 1).toNat = n.toNat - 1 := by omega
    rw [this]
    congr 1
    refine List.map_congr_left fun i _ => ?_
    rw [Int.add_comm]
  rw [e2]
  exact hS
theorem eg_worthW {c : Cw} {Γ : List Spec} {ta tb : TE} {n : Int} {rows : List Rw3} {fam : Fml} {E : XK} (h : EGH c Γ ta aFam fam) (h1 : EG c Γ tb aDT (asKvs rows)) (G : GoodR n rows) (I : IsFam n rows fam) :
    EG c Γ (tCall spWorthW [] E (tCons ta (tCons tb tNil))) aI (HW.worth n rows fam) := eg_callH flat_M (fam, rows, n) (eah_is h (eah_is h1.now eah_nil)) ⟨G.rin, lt2_uq G.srt, I, G.n1, G.n2⟩ rfl
end
end
section
local macro_rules | `(tactic| walk_at "ev") => `(tactic| first
  | ((with_reducible apply eg_var); rfl)
  | with_reducible exact eg_int
  | with_reducible exact eg_bl
  | with_reducible exact eg_str
  | with_reducible exact eg_non
  | ((with_reducible apply eg_Ii); walk_at "ev"; walk_at "ev")
  | ((with_reducible apply eg_Ib); walk_at "ev"; walk_at "ev")
  | ((with_reducible apply eg_Ic); walk_at "ev"; walk_at "ev"; walk_at "side")
  | ((with_reducible apply eg_un); walk_at "ev")
  | ((with_reducible apply eg_chain); walk_at "ev"; walk_at "ev"; walk_at "ev")
  | ((with_reducible apply eg_eqI); walk_at "ev"; walk_at "ev")
  | ((with_reducible apply eg_neI); walk_at "ev"; walk_at "ev")
  | ((with_reducible apply eg_eqS); walk_at "ev"; walk_at "ev")
  | ((with_reducible apply eg_neS); walk_at "ev"; walk_at "ev")
  | ((with_reducible apply eg_eqO); walk_at "ev"; walk_at "ev")
  | ((with_reducible apply eg_neO); walk_at "ev"; walk_at "ev")
  | ((with_reducible apply eg_isO); walk_at "ev")
  | ((with_reducible apply eg_notO); walk_at "ev")
  | ((with_reducible apply eg_isT objT3); walk_at "ev")
  | ((with_reducible apply eg_isT objL); walk_at "ev")
  | ((with_reducible apply eg_p0); walk_at "ev")
  | ((with_reducible apply eg_p1); walk_at "ev")
  | ((with_reducible apply eg_t0); walk_at "ev")
  | ((with_reducible apply eg_t1); walk_at "ev")
  | ((with_reducible apply eg_t2); walk_at "ev")
  | ((with_reducible apply eg_len (τ := aRow)); walk_at "ev")
  | ((with_reducible apply eg_len); walk_at "ev")
  | ((with_reducible apply eg_tup2); walk_at "ev"; walk_at "ev")
  | ((with_reducible apply eg_tup3); walk_at "ev"; walk_at "ev"; walk_at "ev")
  | ((with_reducible apply eg_in); walk_at "ev"; walk_at "ev")
  | ((with_reducible apply eg_nin); walk_at "ev"; walk_at "ev")
  | ((with_reducible apply eg_sum); walk_at "ev")
  | ((with_reducible apply eg_all); walk_at "ev")
  | ((with_reducible apply eg_max2); walk_at "ev"; walk_at "ev")
  | ((with_reducible apply eg_get1); walk_at "ev"; walk_at "ev")
  | ((with_reducible apply eg_din); walk_at "ev"; walk_at "ev")
  | ((with_reducible apply eg_dnin); walk_at "ev"; walk_at "ev")
  | ((with_reducible apply eg_lenT); walk_at "ev")
  | ((with_reducible apply eg_not); walk_at "ev")
  | ((with_reducible apply eg_and'); walk_at "ev"; walk_at "ev")
  | ((with_reducible apply eg_or'); walk_at "ev"; walk_at "ev")
  | ((with_reducible apply et_not); walk_at "ev")
  | ((with_reducible apply et_and'); walk_at "ev"; walk_at "ev")
  | ((with_reducible apply et_or'); walk_at "ev"; walk_at "ev")
  | ((with_reducible apply et_test); walk_at "ev")
  | ((with_reducible apply et_B); walk_at "ev")
  | with_reducible exact et_yes
  | ((with_reducible apply ekp_tup); walk_at "ev"; walk_at "ev")
  | ((with_reducible apply ekp_of); walk_at "ev")
  | ((with_reducible apply edt_own); rfl)
  | ((with_reducible apply EG.edt); walk_at "ev")
  | ((with_reducible apply edk_own); rfl)
  | ((with_reducible apply EG.edk); walk_at "ev")
  | ((with_reducible apply ex_own); rfl)
  | ((with_reducible apply EX.el); (with_reducible apply ex_own); rfl)
  | ((with_reducible apply EG.el); walk_at "ev")
  | ((with_reducible apply EG.scr); walk_at "ev")
  | ((with_reducible apply EG.ef); walk_at "ev")
  | ((with_reducible apply EG.ex); walk_at "ev")
  | ((with_reducible apply EX.el); (with_reducible apply EN.ex); walk_at "ev")
  | ((with_reducible apply EN.ex); walk_at "ev")
  | ((with_reducible apply eb_see); rfl)
  | ((with_reducible apply eb_own); rfl)
  | ((with_reducible apply eb_of); walk_at "ev")
  | with_reducible exact ea_nil
  | ((with_reducible apply ea_is); walk_at "ev"; walk_at "ev")
  | ((with_reducible apply ea_see); walk_at "ev"; walk_at "ev")
  | with_reducible exact eas_nil
  | ((with_reducible apply eas_cons); walk_at "ev"; walk_at "ev")
  | ((with_reducible apply en_lst); walk_at "ev"; exact Nat.le_of_ble_eq_true rfl)
  | ((with_reducible apply en_list); walk_at "ev")
  | with_reducible exact en_dK
  | with_reducible exact en_dT
  | ((with_reducible apply eg_size); walk_at "ev"; exact Txt.cl (by assumption); exact Txt.nS (by assumption))
  | ((with_reducible apply edt_costs); walk_at "ev"; exact Txt.cl (by assumption); exact Txt.nC (by assumption)))
local macro_rules | `(tactic| walk_at "side") => `(tactic| first
  | exact ⟨by decide, by decide⟩
  | exact .inr ⟨by decide, by decide⟩
  | exact .inl ⟨by decide, by decide⟩
  | decide
  | omega
  | (show (0 : Int) < _; omega))
local macro_rules | `(tactic| walk_at "nz") => `(tactic| (try dsimp only [entS] at *))
local macro_rules | `(tactic| walk_at "ev") => `(tactic| first
  | ((with_reducible apply eg_many); walk_at "ev")
  | ((with_reducible apply en_hear); walk_at "ev"; assumption))
section
variable {P : Program} {w : World} {K : PySem.W.Frag} {mg : Str → Option Value} {base : Heap}
/-! ### pairs, held against due ones -/
abbrev spPairs : Sp := Pm (fun a : List (Int × Int) × List (Int × Int) => [.is (aL (aP aI aI)) a.1, .is (aL (aP aI aI)) a.2]) (fun a => .ret aB (decide (a.1 = a.2))) fun _ => True
abbrev s_w_pairs : Stmt := top 42
abbrev N_w_pairs : List Str := ["found", "due", "pair"]
abbrev P_w_pairs : List Str := ["found", "due"]
theorem sc_w_pairs : FnScope N_w_pairs P_w_pairs (defScope s_w_pairs) := ⟨rfl, rfl, rfl, by decide +kernel, rfl, by decide +kernel, by decide +kernel⟩

theorem ok_w_pairs {f : Addr} {fd : FuncData} (F : FunX K "_law_pairs" "_law_pairs" s_w_pairs f fd) (T : Txt K mg) (c_w_whole : Cal P w K mg base 1 "_law_whole" spWhole) : FnOk P w K mg base (L2.CX P w) 2 f fd P_w_pairs spPairs := by
  refine okP F sc_w_pairs (fun _ => rfl) fun cdv A outer s H Q E ⟨l, m⟩ A0 hr _ hS => ?_
  refine ⟨_, (pss_cons (ps_if (PW.pt (pw_or (pt_not (pt_val (pe_callB (qb_isi (K := K) rfl) (by rfl) T.b_isinstance (by decide +kernel) (pa_cons (pv 0) (pa_cons (pe_bltn (v := .ty "list") (by rfl) T.b_list (by decide +kernel) rfl) pa_nil))))) (pw_or1 (pt_cmpR op_ne (pe_callB (qb_len (K := K) rfl) (by rfl) T.b_len (by decide +kernel) (pa_cons (pv 0) pa_nil)) (pe_callB (qb_len (K := K) rfl) (by rfl) T.b_len (by decide +kernel) (pa_cons (pv 1) pa_nil)) (nomark _)))))
  (pss_one (ps_ret pe_bl))
  pss_nil)
  (pss_cons (ps_for PassesOwn.never rfl (qi_list (K := K) rfl (pv 0)) (pg_name (i := 2) sc_w_pairs.nd rfl (Or.inl rfl))
  (pss_one (ps_if (PW.pt (pw_or (pt_not (pt_val (pe_callB (qb_isi (K := K) rfl) (by rfl) T.b_isinstance (by decide +kernel) (pa_cons (pv 2) (pa_cons (pe_bltn (v := .ty "tuple") (by rfl) T.b_tuple (by decide +kernel) rfl) pa_nil))))) (pw_or (pt_cmpR op_ne (pe_callB (qb_len (K := K) rfl) (by rfl) T.b_len (by decide +kernel) (pa_cons (pv 2) pa_nil)) pe_int (nomark _)) (pw_or (pt_not (pt_val (pe_cN c_w_whole hr (by first | decide | omega) rfl (pa_cons (pe_ix (qx_tup (K := K) rfl) (pv 2) pe_int (fun _ _ => rfl)) pa_nil)))) (pw_or1 (pt_not (pt_val (pe_cN c_w_whole hr (by first | decide | omega) rfl (pa_cons (pe_ix (qx_tup (K := K) rfl) (pv 2) pe_int (fun _ _ => rfl)) pa_nil)))))))))
  (pss_one (ps_ret pe_bl))
  pss_nil)))
  (pss_one (ps_ret (pe_cmpR (qo_eqD (K := K) rfl (by exact hr.units)) (pv 0) (pv 1) (nomark _)))))), ?_⟩
  walk_at "nz"
  refine t_if (b := (!true) || !decide ((l.length : Int) = (m.length : Int))) (et_or' (et_not (et_test (eg_isiT (τ := aL (aP aI aI)) (x := l) kd_L (by walk_at "ev") (fun _ => rfl)))) (et_test (eg_neI (eg_len (τ := aP aI aI) (by walk_at "ev")) (eg_len (τ := aP aI aI) (by walk_at "ev"))))) (fun e => ?_) (fun e => t_go ?_)
  · have ne : ¬ l = m := fun z => by rw [z] at e; simp at e
    rw [decide_eq_false ne] at hS
    exact t_ret eg_bl hS
  refine t_forL (l := l) (fun i => [.is (aL (aP aI aI)) l, .is (aL (aP aI aI)) m, .any]) (fun _ => True) (by walk_at "ev") ⟨.inr rfl, .inr rfl, .inl rfl, trivial⟩ trivial (fun i r hr' _ d hd => ?_) (fun _ => ?_)
  · refine t_one (t_if (b := (!true) || ((!decide ((2 : Int) = 2)) || ((!true) || !true))) (et_or' (et_not (et_test (eg_isiT (τ := aP aI aI) (x := r) kd_P (by walk_at "ev") (fun _ => rfl)))) (et_or' (et_test (eg_neI (eg_lenP (τ := aI) (θ := aI) (x := r) (by walk_at "ev")) eg_int)) (et_or' (et_not (et_test (eg_wholeI (by walk_at "ev")))) (et_not (et_test (eg_wholeI (by walk_at "ev"))))))) (fun e2 => ?_) (fun e2 => t_go ?_))
    · simp at e2
    · exact t_end ⟨.inr rfl, .inr rfl, .inl rfl, trivial⟩ trivial
  · exact t_ret (eg_eqD (dt_L dt_pair) (by walk_at "ev") (by walk_at "ev")) hS
theorem eg_pairs {c : Cw} {Γ : List Spec} {ta tb : TE} {l m : List (Int × Int)} {E : XK} (h : EGH c Γ ta (aL (aP aI aI)) l) (h1 : EGH c Γ tb (aL (aP aI aI)) m) : EG c Γ (tCall spPairs [] E (tCons ta (tCons tb tNil))) aB (decide (l = m)) := eg_callH flat_M (l, m) (eah_is h (eah_is h1 eah_nil)) trivial rfl
/-- the ways of an if go on alike -/
theorem t_ifG {ι : Type} {c : Cw} {Γ : List Spec} {t : TT} {tu tw tz : TS} {D : Ends} {b : Bool} (Γs : ι → List Spec) (I : ι → Prop) (h : ET c Γ t b) (k : ∀ s, I s → Tr c (Γs s) tz D) (h1 : b = true → (∀ s, I s → Tr c (Γs s) tNext { D with nx := tz D }) → Tr c Γ tu { D with nx := tz D })
    (h2 : b = false → (∀ s, I s → Tr c (Γs s) tNext { D with nx := tz D }) → Tr c Γ tw { D with nx := tz D }) : Tr c Γ (tSeq (tIfS t tu tw) tz) D := t_if h (fun hb => h1 hb fun s hs => t_go (k s hs)) (fun hb => h2 hb fun s hs => t_go (k s hs))
theorem t_wkR {c : Cw} {Γ Δ : List Spec} {ts : TS} {D : Ends} (k : Tr c Δ ts D) (h : Wk Γ Δ) : Tr c Γ ts D := t_weak h k
theorem EN.eq {α : Type} {c : Cw} {Γ : List Spec} {te : TE} {κ : Ob α} {x x' : α} (h : EN c Γ te κ x) (e : x = x') : EN c Γ te κ x' := e ▸ h
theorem eg_jud0P {c : Cw} {Γ : List Spec} {te : TE} {P : List Int ⊕ (Fml × List Price) → Prop} {t : Str} (h : EP c Γ te aJud P) (hp : ∀ x, P x → tagS x = t) : EG c Γ (tOp (rIxT K) te (tC (.int 0))) aS t := fun σ F Ms H w Q q =>
  h σ F Ms H w _ fun x v F1 H1 px s1 r => by
    have tg := hp x px
    cases x with
    | inl g => obtain ⟨p, u, e, h1, h2⟩ := r; exact ⟨p, _, 0, _, e, rfl, .inl (.inl (s1.fh _ _ h1)), rfl, q _ F1 H1 s1 (congrArg V.str tg)⟩
    | inr g => obtain ⟨p, u, z, e, h1, h2⟩ := r; exact ⟨p, _, 0, _, e, rfl, .inl (.inl (s1.fh _ _ h1)), rfl, q _ F1 H1 s1 (congrArg V.str tg)⟩
abbrev s_w_rest : Stmt := top 43
abbrev N_w_rest : List Str := ["family"]
abbrev P_w_rest : List Str := ["family"]
theorem sc_w_rest : FnScope N_w_rest P_w_rest (defScope s_w_rest) := ⟨rfl, rfl, rfl, by decide +kernel, rfl, by decide +kernel, by decide +kernel⟩

theorem ok_w_rest {f : Addr} {fd : FuncData} (F : FunX K "_law_rest" "_law_rest" s_w_rest f fd) (T : Txt K mg) : FnOk P w K mg base (L2.CX P w) 1 f fd P_w_rest spRest := by
  refine okP F sc_w_rest (fun _ => rfl) fun cdv A outer s H Q E r A0 hr hz hS => ?_
  refine ⟨_, (pss_one (ps_ret (pe_slice (ql_list (K := K) rfl) (pv 0) (po_some pe_int) po_none))), ?_⟩
  walk_at "nz"
  exact t_retN (κ := oL aO) (x := r.map some) (EN.eq (en_slice (τ := aO) (l := restF r) (lo := some 1) (hi := none) (by walk_at "ev") (eo_some eg_int) eo_none) (cutL_from (j := 1) (by rw [List.length_cons]; omega))) hS
noncomputable abbrev spAll : Sp := Pm (fun a : List Rw3 × Int => [.is (aL aRow) a.1, .is aI a.2]) (fun a => .new (oL aFam) (allF a.2 a.1)) fun a => GoodR a.2 a.1 ∧ a.2 ≤ 4 ∧ a.1.length ≤ 12
abbrev s_w_all : Stmt := top 41
abbrev N_w_all : List Str := ["rows", "many", "found", "teller", "longer", "family", "costs", "row"]
abbrev P_w_all : List Str := ["rows", "many"]
theorem sc_w_all : FnScope N_w_all P_w_all (defScope s_w_all) := ⟨rfl, rfl, rfl, by decide +kernel, rfl, by decide +kernel, by decide +kernel⟩

theorem ok_w_all {f : Addr} {fd : FuncData} (F : FunX K "_law_all" "_law_all" s_w_all f fd) (T : Txt K mg) (c_w_costs : Cal P w K mg base 1 "_law_costs" spCosts) (c_w_family : Cal P w K mg base 2 "_law_family" spFamW) : FnOk P w K mg base (L2.CX P w) 3 f fd P_w_all spAll := by
  refine okP F sc_w_all (fun _ => rfl) fun cdv A outer s H Q E ⟨rows, n⟩ A0 hr ⟨GR, n4, few⟩ hS => ?_
  have GR : GoodR n rows := GR
  have n4 : n ≤ 4 := n4
  have few : rows.length ≤ 12 := few
  have n1 := GR.n1
  have hu := hu_of hr
  refine ⟨_, (pss_cons (ps_set (i := 2) sc_w_all.nd rfl (Or.inl rfl) (pe_lst (pa_cons (pe_lst (pa_cons pe_non pa_nil)) pa_nil)))
  (pss_cons (ps_for PassesOwn.never rfl (pi_range2 rfl T.b_range (pa_cons pe_int (pa_cons (pv 1) pa_nil))) (pg_name (i := 3) sc_w_all.nd rfl (Or.inr rfl))
  (pss_cons (ps_set (i := 4) sc_w_all.nd rfl (Or.inl rfl) (pe_lst pa_nil))
  (pss_cons (ps_for PassesOwn.never rfl (qi_list (K := K) rfl (pv 2)) (pg_name (i := 5) sc_w_all.nd rfl (Or.inr rfl))
  (pss_one (ps_expr (qe_bm (K := K) rfl PySem.F.plainAttrs_list PySem.F.slot_list_extend PySem.F.type_list_extend mt_extend (pv 4) (pa_cons (qe_lc (x := "row") (j := 7) rfl sc_w_all.nd (qi_list (K := K) rfl (pv 0)) (blkOk_by (N := N_w_all) (sc := defScope s_w_all) (by decide +kernel)) (fun _ _ _ _ _ => pg_name (i := 7) sc_w_all.nd rfl (Or.inl rfl)) (fun _ _ _ _ _ => by exact (pts_one (pt_cmpR op_eq (pe_ix (qx_tup (K := K) rfl) (pv 7) pe_int (fun _ _ => rfl)) (pv 3) (nomark _)))) (fun _ _ _ _ _ => by exact (pe_op op_cat (pv 5) (pe_lst (pa_cons (pe_ix (qx_tup (K := K) rfl) (pv 7) pe_int (fun _ _ => rfl)) pa_nil))))) pa_nil)))))
  (pss_one (ps_set (i := 2) sc_w_all.nd rfl (Or.inl rfl) (pv 4))))))
  (pss_cons (ps_set (i := 6) sc_w_all.nd rfl (Or.inr rfl) (pe_cN c_w_costs hr (by first | decide | omega) rfl (pa_cons (pv 0) pa_nil)))
  (pss_one (ps_ret (qe_lc (x := "family") (j := 5) rfl sc_w_all.nd (qi_list (K := K) rfl (pv 2)) (blkOk_by (N := N_w_all) (sc := defScope s_w_all) (by decide +kernel)) (fun _ _ _ _ _ => pg_name (i := 5) sc_w_all.nd rfl (Or.inl rfl)) (fun _ _ _ _ _ => by exact (pts_one (pt_val (pe_cN c_w_family hr (by first | decide | omega) rfl (pa_cons (pv 5) (pa_cons (pv 6) (pa_cons (pv 1) pa_nil))))))) (fun _ _ _ _ _ => by exact (pv 5)))))))), ?_⟩
  walk_at "nz"
  have len : ∀ i : Nat, i ≤ 3 → (allN rows i).length ≤ 1728 := fun i hi => Nat.le_trans (allN_len few i) (Nat.pow_le_pow_right (by decide) hi)
  refine t_new (κ := oL aFam) (x := [[none]]) (en_lst (eas_cons (EN.fz (en_lst (τ := aO) (l := [none]) (eas_cons (EG.optN eg_non) eas_nil) (by decide))) eas_nil) (by decide)) ?_
  refine t_fz 2 rfl (fun h => h) ?_
  refine t_forR2 (a := 1) (n := n) (fun i => [.is (aL aRow) rows, .is aI n, .is (aL aFam) (allN rows i), .any, .any, .any, .any, .any]) (fun _ => True) eg_int (by walk_at "ev") (by omega) ⟨.inr rfl, .inr rfl, .inr rfl, .inl rfl, .inl rfl, .inl rfl, .inl rfl, .inl rfl, trivial⟩ trivial (fun i hi _ => ?_) (fun _ => ?_)
  · have li := len i (by omega)
    have li1 := len (i + 1) (by omega)
    refine t_new (κ := oL aFam) (x := []) (by walk_at "ev") ?_
    refine t_forL (l := allN rows i) (fun j => [.is (aL aRow) rows, .is aI n, .is (aL aFam) (allN rows i), .is aI (1 + (i : Int)), .own (oL aFam) (((allN rows i).take j).flatMap (extF rows (1 + (i : Int)))), .any, .any, .any]) (fun _ => True) (by walk_at "ev") ⟨.inr rfl, .inr rfl, .inr rfl, .inr rfl, .inr rfl, .inl rfl, .inl rfl, .inl rfl, trivial⟩ trivial (fun j f hf _ d hd => ?_) (fun _ => ?_)
    · obtain ⟨r0, _, hr0⟩ := allN_shape rows i f (List.mem_of_getElem? hf)
      have fl : f.length ≤ 100 := by
        obtain ⟨r0, e, hr0⟩ := allN_shape rows i f (List.mem_of_getElem? hf)
        rw [e, List.length_cons, List.length_map, hr0]
        omega
      have h1 := flatL_len (ext_len few (1 + (i : Int))) ((allN rows i).take j)
      have h2 := ext_len few (1 + (i : Int)) f
      rw [List.length_take] at h1
      refine t_one (t_dropM (em_ext (k := extF rows (1 + (i : Int)) f) rfl (EN.ex (en_lc (τ := aFam) (θ := aRow) (fun r => decide (r.2.1 = 1 + (i : Int))) (fun r => f ++ [some r.1]) (by walk_at "ev") (by omega) (fun r _ => et_test (by walk_at "ev")) fun r _ _ => EN.fz (en_cat (τ := aO) (l := f) (m := [some r.1]) (by walk_at "ev") (EN.ex (en_lst (eas_cons (EG.opt (by walk_at "ev")) eas_nil) (Nat.le_of_ble_eq_true rfl))) (by show f.length + 1 ≤ 100000; omega)))) (by omega)) ?_)
      refine t_end ⟨.inr rfl, .inr rfl, .inr rfl, .inr rfl, .inr ?_, .inl rfl, .inl rfl, .inl rfl, trivial⟩ trivial
      rw [take_succ_of hf, List.flatMap_append, List.flatMap_cons, List.flatMap_nil, List.append_nil]
    · rw [List.take_length]
      refine t_fz 4 rfl (fun h => h) ?_
      refine t_one (t_asg (x := allN rows (i + 1)) (eg_var (τ := aL aFam) rfl) ?_)
      exact t_end ⟨.inr rfl, .inr rfl, .inr rfl, .inl rfl, .inl rfl, .inl rfl, .inl rfl, .inl rfl, trivial⟩ trivial
  · have le := len (n - 1).toNat (by omega)
    refine t_new (en_costs (by walk_at "ev") (lt2_uq GR.srt) (by omega)) ?_
    refine t_fz 6 rfl (fun h => h) ?_
    refine t_retN (κ := oL aFam) (x := allF n rows) (en_lcF (θ := aFam) (famB n rows) (by walk_at "ev") (by omega) (fun f hf => et_test (eg_familyW (EG.now (by walk_at "ev")) (by walk_at "ev") (by walk_at "ev") GR ?_)) (Nat.le_of_ble_eq_true rfl)) hS
    obtain ⟨r0, e, hr0⟩ := allN_shape rows _ f hf
    rw [e, List.length_cons, List.length_map, hr0]
    omega
theorem en_all {c : Cw} {Γ : List Spec} {ta tb : TE} {rows : List Rw3} {n : Int} {E : XK} (h : EG c Γ ta (aL aRow) rows) (h1 : EG c Γ tb aI n) (G : GoodR n rows) (n4 : n ≤ 4) (few : rows.length ≤ 12) : EN c Γ (tCall spAll [] E (tCons ta (tCons tb tNil))) (oL aFam) (allF n rows) := en_call (rows, n) (ea_is h (ea_is h1 ea_nil)) ⟨G, n4, few⟩ rfl
theorem allF_len {n : Int} {rows : List Rw3} (n4 : n ≤ 4) (few : rows.length ≤ 12) : (allF n rows).length ≤ 1728 := by
  unfold allF
  exact Nat.le_trans (List.length_filter_le _ _) (Nat.le_trans (allN_len few _) (Nat.pow_le_pow_right (by decide) (show (n - 1).toNat ≤ 3 by omega)))
structure LackQ where
  found : Option Int
  row : Rw3
  rows : List Rw3
  n : Int
  m : Int
noncomputable abbrev spLackW : Sp := Pm (fun a : LackQ => [.is aO a.found, .is aRow a.row, .is (aL aFam) (allF a.n a.rows), .is aDT (asKvs a.rows), .is aI a.m]) (fun _ => .ret aB true) fun a => (GoodR a.n a.rows ∧ a.n ≤ 4 ∧ a.rows.length ≤ 12) ∧ a.row ∈ a.rows ∧ leastV a.n a.rows = some a.m ∧ a.found = lackV a.n a.rows a.row.1 a.row.2.1
abbrev s_w_lack_is : Stmt := top 44
abbrev N_w_lack_is : List Str := ["found", "row", "families", "costs", "low", "worths", "family"]
abbrev P_w_lack_is : List Str := ["found", "row", "families", "costs", "low"]
theorem sc_w_lack_is : FnScope N_w_lack_is P_w_lack_is (defScope s_w_lack_is) := ⟨rfl, rfl, rfl, by decide +kernel, rfl, by decide +kernel, by decide +kernel⟩

theorem ok_w_lack_is {f : Addr} {fd : FuncData} (F : FunX K "_law_lack_is" "_law_lack_is" s_w_lack_is f fd) (T : Txt K mg) (c_w_worth : Cal P w K mg base 1 "_law_worth" spWorthW) (c_w_whole : Cal P w K mg base 1 "_law_whole" spWhole) : FnOk P w K mg base (L2.CX P w) 2 f fd P_w_lack_is spLackW := by
  refine okP F sc_w_lack_is (fun _ => rfl) fun cdv A outer s H Q E ⟨fnd, row, rows, n, m⟩ A0 hr ⟨⟨GR, n4, few⟩, hrow, low, ef⟩ hS => ?_
  have GR : GoodR n rows := GR
  have n4 : n ≤ 4 := n4
  have few : rows.length ≤ 12 := few
  have low : leastV n rows = some m := low
  have ef : fnd = lackV n rows row.1 row.2.1 := ef
  have n1 := GR.n1
  have rg := GR.rg row hrow
  have hu := hu_of hr
  refine ⟨_, (pss_cons (qs_setLc (i := 5) (x := "family") (j := 6) rfl sc_w_lack_is.nd rfl rfl (sw_true rfl rfl rfl (by decide +kernel)) (qi_list (K := K) rfl (pv 2)) (blkOk_by (N := N_w_lack_is) (sc := defScope s_w_lack_is) (by decide +kernel)) (fun _ _ _ _ _ => pg_name (i := 6) sc_w_lack_is.nd rfl (Or.inl rfl)) (fun _ _ _ _ _ => by exact (pts_one (pt_cmpR op_eq (pe_ix (qx_list (K := K) rfl) (pv 6) (pe_ix (qx_tup (K := K) rfl) (pv 1) pe_int (fun _ _ => rfl)) (fun _ _ => rfl)) (pe_ix (qx_tup (K := K) rfl) (pv 1) pe_int (fun _ _ => rfl)) (nomark _)))) (fun _ _ _ _ _ => by exact (pe_cN c_w_worth hr (by first | decide | omega) rfl (pa_cons (pv 6) (pa_cons (pv 3) pa_nil)))))
  (pss_cons (ps_if (pt_cmpR (qo_eqD (K := K) rfl (by exact hr.units)) (pv 5) (pe_lst pa_nil) (nomark _))
  (pss_one (ps_ret (pe_cmpR op_isN (pv 0) pe_non (nomark _))))
  pss_nil)
  (pss_one (ps_ret (pe_and (pe_cN c_w_whole hr (by first | decide | omega) rfl (pa_cons (pv 0) pa_nil)) (pe_one (pe_cmpR op_eq (pv 0) (pe_op op_sub (pe_callB (qb_min (K := K) rfl rfl) (by rfl) T.b_min (by decide +kernel) (pa_cons (pv 5) pa_nil)) (pv 4)) (nomark _)))))))), ?_⟩
  walk_at "nz"
  have len := allF_len n4 few
  refine t_new (κ := oL aI) (x := worthsF n rows row.1 row.2.1) (en_lc (τ := aI) (θ := aFam) (hearsB row.1 row.2.1) (HW.worth n rows) (by walk_at "ev") (by omega) (fun f hf => ?_) fun f hf _ => ?_) ?_
  · have I := (mem_allF n1).mp hf
    have pg := I.par_get (t := row.2.1) (by omega) (by omega)
    exact et_test (EG.eq (eg_eqO (i := some (HW.par f row.2.1)) (j := some row.1) (eg_ixL (by walk_at "ev") (by walk_at "ev") (at_of (by omega) pg)) (EG.opt (by walk_at "ev"))) rfl)
  · exact eg_worthW (EG.now (by walk_at "ev")) (by walk_at "ev") GR ((mem_allF n1).mp hf)
  refine t_fz 5 rfl (fun h => h) ?_
  refine t_if (b := decide (worthsF n rows row.1 row.2.1 = [])) (et_test (eg_eqD (dt_L dt_I) (by walk_at "ev") (EN.fz (en_lst (l := ([] : List Int)) eas_nil (by decide))))) (fun e => ?_) (fun e => t_go ?_)
  · have z := lackA_none n1 GR.rin rg.2.1 (of_decide_eq_true e)
    rw [z] at ef
    subst ef
    exact t_one (t_ret (eg_isO (o := none) (eg_var rfl)) hS)
  · obtain ⟨k, e1, e2, e3⟩ := lackA_some n1 GR.rin rg.2.1 low (of_decide_eq_false e)
    rw [e1] at ef
    subst ef
    refine t_ret (x := true && decide (some (k - m) = some (k - m))) (eg_and' (eg_wholeO (o := some (k - m)) (eg_var rfl)) (eg_eqO (i := some (k - m)) (eg_var rfl) (EG.opt (eg_Ii (g := fun i j => i - j) (eg_min (by walk_at "ev") e2 e3) (by walk_at "ev"))))) ?_
    rw [decide_eq_true rfl]
    exact hS

end
end
section
local macro_rules | `(tactic| walk_at "ev") => `(tactic| first
  | ((with_reducible apply eg_var); rfl)
  | with_reducible exact eg_int
  | with_reducible exact eg_bl
  | with_reducible exact eg_str
  | with_reducible exact eg_non
  | ((with_reducible apply eg_Ii); walk_at "ev"; walk_at "ev")
  | ((with_reducible apply eg_Ib); walk_at "ev"; walk_at "ev")
  | ((with_reducible apply eg_Ic); walk_at "ev"; walk_at "ev"; walk_at "side")
  | ((with_reducible apply eg_un); walk_at "ev")
  | ((with_reducible apply eg_chain); walk_at "ev"; walk_at "ev"; walk_at "ev")
  | ((with_reducible apply eg_eqI); walk_at "ev"; walk_at "ev")
  | ((with_reducible apply eg_neI); walk_at "ev"; walk_at "ev")
  | ((with_reducible apply eg_eqS); walk_at "ev"; walk_at "ev")
  | ((with_reducible apply eg_neS); walk_at "ev"; walk_at "ev")
  | ((with_reducible apply eg_eqO); walk_at "ev"; walk_at "ev")
  | ((with_reducible apply eg_neO); walk_at "ev"; walk_at "ev")
  | ((with_reducible apply eg_isO); walk_at "ev")
  | ((with_reducible apply eg_notO); walk_at "ev")
  | ((with_reducible apply eg_isT objT3); walk_at "ev")
  | ((with_reducible apply eg_isT objL); walk_at "ev")
  | ((with_reducible apply eg_p0); walk_at "ev")
  | ((with_reducible apply eg_p1); walk_at "ev")
  | ((with_reducible apply eg_t0); walk_at "ev")
  | ((with_reducible apply eg_t1); walk_at "ev")
  | ((with_reducible apply eg_t2); walk_at "ev")
  | ((with_reducible apply eg_len (τ := aRow)); walk_at "ev")
  | ((with_reducible apply eg_len); walk_at "ev")
  | ((with_reducible apply eg_tup2); walk_at "ev"; walk_at "ev")
  | ((with_reducible apply eg_tup3); walk_at "ev"; walk_at "ev"; walk_at "ev")
  | ((with_reducible apply eg_in); walk_at "ev"; walk_at "ev")
  | ((with_reducible apply eg_nin); walk_at "ev"; walk_at "ev")
  | ((with_reducible apply eg_sum); walk_at "ev")
  | ((with_reducible apply eg_all); walk_at "ev")
  | ((with_reducible apply eg_max2); walk_at "ev"; walk_at "ev")
  | ((with_reducible apply eg_get1); walk_at "ev"; walk_at "ev")
  | ((with_reducible apply eg_din); walk_at "ev"; walk_at "ev")
  | ((with_reducible apply eg_dnin); walk_at "ev"; walk_at "ev")
  | ((with_reducible apply eg_lenT); walk_at "ev")
  | ((with_reducible apply eg_not); walk_at "ev")
  | ((with_reducible apply eg_and'); walk_at "ev"; walk_at "ev")
  | ((with_reducible apply eg_or'); walk_at "ev"; walk_at "ev")
  | ((with_reducible apply et_not); walk_at "ev")
  | ((with_reducible apply et_and'); walk_at "ev"; walk_at "ev")
  | ((with_reducible apply et_or'); walk_at "ev"; walk_at "ev")
  | ((with_reducible apply et_test); walk_at "ev")
  | ((with_reducible apply et_B); walk_at "ev")
  | with_reducible exact et_yes
  | ((with_reducible apply ekp_tup); walk_at "ev"; walk_at "ev")
  | ((with_reducible apply ekp_of); walk_at "ev")
  | ((with_reducible apply edt_own); rfl)
  | ((with_reducible apply EG.edt); walk_at "ev")
  | ((with_reducible apply edk_own); rfl)
  | ((with_reducible apply EG.edk); walk_at "ev")
  | ((with_reducible apply ex_own); rfl)
  | ((with_reducible apply EX.el); (with_reducible apply ex_own); rfl)
  | ((with_reducible apply EG.el); walk_at "ev")
  | ((with_reducible apply EG.scr); walk_at "ev")
  | ((with_reducible apply EG.ef); walk_at "ev")
  | ((with_reducible apply EG.ex); walk_at "ev")
  | ((with_reducible apply EX.el); (with_reducible apply EN.ex); walk_at "ev")
  | ((with_reducible apply EN.ex); walk_at "ev")
  | ((with_reducible apply eb_see); rfl)
  | ((with_reducible apply eb_own); rfl)
  | ((with_reducible apply eb_of); walk_at "ev")
  | with_reducible exact ea_nil
  | ((with_reducible apply ea_is); walk_at "ev"; walk_at "ev")
  | ((with_reducible apply ea_see); walk_at "ev"; walk_at "ev")
  | with_reducible exact eas_nil
  | ((with_reducible apply eas_cons); walk_at "ev"; walk_at "ev")
  | ((with_reducible apply en_lst); walk_at "ev"; exact Nat.le_of_ble_eq_true rfl)
  | ((with_reducible apply en_list); walk_at "ev")
  | with_reducible exact en_dK
  | with_reducible exact en_dT
  | ((with_reducible apply eg_size); walk_at "ev"; exact Txt.cl (by assumption); exact Txt.nS (by assumption))
  | ((with_reducible apply edt_costs); walk_at "ev"; exact Txt.cl (by assumption); exact Txt.nC (by assumption)))
local macro_rules | `(tactic| walk_at "side") => `(tactic| first
  | exact ⟨by decide, by decide⟩
  | exact .inr ⟨by decide, by decide⟩
  | exact .inl ⟨by decide, by decide⟩
  | decide
  | omega
  | (show (0 : Int) < _; omega))
local macro_rules | `(tactic| walk_at "nz") => `(tactic| (try dsimp only [entS] at *))
local macro_rules | `(tactic| walk_at "ev") => `(tactic| first
  | ((with_reducible apply eg_many); walk_at "ev")
  | ((with_reducible apply en_hear); walk_at "ev"; assumption))
section
variable {P : Program} {w : World} {K : PySem.W.Frag} {mg : Str → Option Value} {base : Heap}
theorem keyed {f : Rw3 → Bool} {rows : List Rw3} {i : Nat} (h : rows.length ≤ 12) : (((rows.take i).filter f).map fun r => (r.1, r.2.1)).length ≤ 12 := by
  rw [List.length_map]
  have := List.length_filter_le f (rows.take i)
  rw [List.length_take] at this
  omega
abbrev spLaw (K : PySem.W.Frag) : Sp := Pm (fun s : List Int => [.is (aScr K) s]) (fun _ => .ret aB true) fun s => s.length ≤ 63
abbrev s_law : Stmt := top 45
abbrev N_law : List Str := ["script", "many", "rows", "costs", "book", "families", "low", "good", "turn", "told", "row", "some", "every", "having", "family"]
abbrev P_law : List Str := ["script"]
theorem sc_law : FnScope N_law P_law (defScope s_law) := ⟨rfl, rfl, rfl, by decide +kernel, rfl, by decide +kernel, by decide +kernel⟩

theorem ok_law {f : Addr} {fd : FuncData} (F : FunX K "law" "law" s_law f fd) (T : Txt K mg) (c_w_cell_at : Cal P w K mg base 1 "_law_cell_at" (spCell K)) (c_w_rows : Cal P w K mg base 2 "_law_rows" (spRows K)) (c_w_costs : Cal P w K mg base 1 "_law_costs" spCosts) (c_w_book : Cal P w K mg base 3 "_law_book" (spBookW K)) (c_w_all : Cal P w K mg base 3 "_law_all" spAll)
    (c_least : Cal P w K mg base 16 "least" (spLeast K)) (c_first : Cal P w K mg base 17 "first" (spFirst K)) (c_judged : Cal P w K mg base 15 "judged" (spJudged K)) (c_w_worth : Cal P w K mg base 1 "_law_worth" spWorthW) (c_w_rest : Cal P w K mg base 1 "_law_rest" spRest) (c_lack : Cal P w K mg base 17 "lack" (spLack K)) (c_w_lack_is : Cal P w K mg base 2 "_law_lack_is" spLackW)
    (c_w_pairs : Cal P w K mg base 2 "_law_pairs" spPairs) (c_free : Cal P w K mg base 18 "free" (spFree K)) (c_bound : Cal P w K mg base 19 "bound" (spBound K)) : FnOk P w K mg base (L2.CX P w) 24 f fd P_law (spLaw K) := by
  refine okP F sc_law (fun _ => rfl) fun cdv A outer s H Q E sc A0 hr hl hS => ?_
  have hu := hu_of hr
  refine ⟨_, (pss_cons (ps_set (i := 1) sc_law.nd rfl (Or.inl rfl) (pe_op op_add pe_int (pe_op op_mod (pe_cN c_w_cell_at hr (by first | decide | omega) rfl (pa_cons (pv 0) (pa_cons pe_int pa_nil))) pe_int)))
  (pss_cons (ps_set (i := 2) sc_law.nd rfl (Or.inl rfl) (pe_cN c_w_rows hr (by first | decide | omega) rfl (pa_cons (pv 0) (pa_cons (pv 1) pa_nil))))
  (pss_cons (ps_set (i := 3) sc_law.nd rfl (Or.inr rfl) (pe_cN c_w_costs hr (by first | decide | omega) rfl (pa_cons (pv 2) pa_nil)))
  (pss_cons (ps_set (i := 4) sc_law.nd rfl (Or.inl rfl) (pe_cN c_w_book hr (by first | decide | omega) rfl (pa_cons (pv 1) (pa_cons (pv 2) pa_nil))))
  (pss_cons (ps_set (i := 5) sc_law.nd rfl (Or.inl rfl) (pe_cN c_w_all hr (by first | decide | omega) rfl (pa_cons (pv 2) (pa_cons (pv 1) pa_nil))))
  (pss_cons (ps_if (pt_cmpR (qo_eqD (K := K) rfl (by exact hr.units)) (pv 5) (pe_lst pa_nil) (nomark _))
  (pss_one (ps_ret (pe_and (pe_cmpR op_isN (pe_cN c_least hr (by first | decide | omega) rfl (pa_cons (pv 4) pa_nil)) pe_non (nomark _)) (pe_and (pe_cmpR op_isN (pe_cN c_first hr (by first | decide | omega) rfl (pa_cons (pv 4) pa_nil)) pe_non (nomark _)) (pe_one (pe_cmpR op_eq (pe_ix (qx_tup (K := K) rfl) (pe_cN c_judged hr (by first | decide | omega) rfl (pa_cons (pv 4) pa_nil)) pe_int (fun _ _ => rfl)) pe_str (nomark _)))))))
  pss_nil)
  (pss_cons (ps_set (i := 6) sc_law.nd rfl (Or.inr rfl) (pe_callB (qb_min (K := K) rfl rfl) (by rfl) T.b_min (by decide +kernel) (pa_cons (qe_lc (x := "family") (j := 14) (tt := tYes) rfl sc_law.nd (qi_list (K := K) rfl (pv 5)) (blkOk_by (N := N_law) (sc := defScope s_law) (by decide +kernel)) (fun _ _ _ _ _ => pg_name (i := 14) sc_law.nd rfl (Or.inl rfl)) (fun _ _ _ _ _ => by exact pts_nil) (fun _ _ _ _ _ => by exact (pe_cN c_w_worth hr (by first | decide | omega) rfl (pa_cons (pv 14) (pa_cons (pv 3) pa_nil))))) pa_nil)))
  (pss_cons (qs_setLc (i := 7) (x := "family") (j := 14) rfl sc_law.nd rfl rfl (sw_true rfl rfl rfl (by decide +kernel)) (qi_list (K := K) rfl (pv 5)) (blkOk_by (N := N_law) (sc := defScope s_law) (by decide +kernel)) (fun _ _ _ _ _ => pg_name (i := 14) sc_law.nd rfl (Or.inl rfl)) (fun _ _ _ _ _ => by exact (pts_one (pt_cmpR op_eq (pe_cN c_w_worth hr (by first | decide | omega) rfl (pa_cons (pv 14) (pa_cons (pv 3) pa_nil))) (pv 6) (nomark _)))) (fun _ _ _ _ _ => by exact (pv 14)))
  (pss_cons (ps_for PassesOwn.never rfl (pi_range1 rfl T.b_range (pa_cons pe_int pa_nil)) (pg_name (i := 8) sc_law.nd rfl (Or.inl rfl))
  (pss_cons (ps_set (i := 9) sc_law.nd rfl (Or.inl rfl) (pe_cN c_first hr (by first | decide | omega) rfl (pa_cons (pv 4) pa_nil)))
  (pss_cons (ps_if (PW.pt (pw_or (pt_cmpR op_ne (pe_cN c_least hr (by first | decide | omega) rfl (pa_cons (pv 4) pa_nil)) (pv 6) (nomark _)) (pw_or1 (pt_cmpR (qo_neD (K := K) rfl (by exact hr.units)) (pv 9) (pe_minK c_w_rest T.f_w_rest hr (by first | decide | omega) rfl T.b_min rfl (pa_cons (pv 7) pa_nil)) (nomark _)))))
  (pss_one (ps_ret pe_bl))
  pss_nil)
  (pss_one (ps_expr (qe_bm (K := K) rfl PySem.F.plainAttrs_list PySem.F.slot_list_append PySem.F.type_list_append mt_append (pv 9) (pa_cons pe_int pa_nil)))))))
  (pss_cons (ps_for PassesOwn.never rfl (qi_list (K := K) rfl (pv 2)) (pg_name (i := 10) sc_law.nd rfl (Or.inr rfl))
  (pss_one (ps_if (pt_not (pt_val (pe_cN c_w_lack_is hr (by first | decide | omega) rfl (pa_cons (pe_cN c_lack hr (by first | decide | omega) rfl (pa_cons (pv 4) (pa_cons (pe_ix (qx_tup (K := K) rfl) (pv 10) pe_int (fun _ _ => rfl)) (pa_cons (pe_ix (qx_tup (K := K) rfl) (pv 10) pe_int (fun _ _ => rfl)) pa_nil)))) (pa_cons (pv 10) (pa_cons (pv 5) (pa_cons (pv 3) (pa_cons (pv 6) pa_nil))))))))
  (pss_one (ps_ret pe_bl))
  pss_nil)))
  (pss_cons (ps_set (i := 11) sc_law.nd rfl (Or.inl rfl) (pe_lst pa_nil))
  (pss_cons (ps_set (i := 12) sc_law.nd rfl (Or.inl rfl) (pe_lst pa_nil))
  (pss_cons (ps_for PassesOwn.never rfl (qi_list (K := K) rfl (pv 2)) (pg_name (i := 10) sc_law.nd rfl (Or.inr rfl))
  (pss_cons (qs_setLc (i := 13) (x := "family") (j := 14) rfl sc_law.nd rfl rfl (sw_true rfl rfl rfl (by decide +kernel)) (qi_list (K := K) rfl (pv 7)) (blkOk_by (N := N_law) (sc := defScope s_law) (by decide +kernel)) (fun _ _ _ _ _ => pg_name (i := 14) sc_law.nd rfl (Or.inl rfl)) (fun _ _ _ _ _ => by exact (pts_one (pt_cmpR op_eq (pe_ix (qx_list (K := K) rfl) (pv 14) (pe_ix (qx_tup (K := K) rfl) (pv 10) pe_int (fun _ _ => rfl)) (fun _ _ => rfl)) (pe_ix (qx_tup (K := K) rfl) (pv 10) pe_int (fun _ _ => rfl)) (nomark _)))) (fun _ _ _ _ _ => by exact (pv 14)))
  (pss_cons (ps_if (pt_cmpR op_gt (pe_callB (qb_len (K := K) rfl) (by rfl) T.b_len (by decide +kernel) (pa_cons (pv 13) pa_nil)) pe_int (nomark _))
  (pss_one (ps_expr (qe_bm (K := K) rfl PySem.F.plainAttrs_list PySem.F.slot_list_append PySem.F.type_list_append mt_append (pv 11) (pa_cons (pe_tup (pa_cons (pe_ix (qx_tup (K := K) rfl) (pv 10) pe_int (fun _ _ => rfl)) (pa_cons (pe_ix (qx_tup (K := K) rfl) (pv 10) pe_int (fun _ _ => rfl)) pa_nil))) pa_nil))))
  pss_nil)
  (pss_one (ps_if (pt_cmpR op_eq (pe_callB (qb_len (K := K) rfl) (by rfl) T.b_len (by decide +kernel) (pa_cons (pv 13) pa_nil)) (pe_callB (qb_len (K := K) rfl) (by rfl) T.b_len (by decide +kernel) (pa_cons (pv 7) pa_nil)) (nomark _))
  (pss_one (ps_expr (qe_bm (K := K) rfl PySem.F.plainAttrs_list PySem.F.slot_list_append PySem.F.type_list_append mt_append (pv 12) (pa_cons (pe_tup (pa_cons (pe_ix (qx_tup (K := K) rfl) (pv 10) pe_int (fun _ _ => rfl)) (pa_cons (pe_ix (qx_tup (K := K) rfl) (pv 10) pe_int (fun _ _ => rfl)) pa_nil))) pa_nil))))
  pss_nil)))))
  (pss_one (ps_ret (pe_and (pe_cN c_w_pairs hr (by first | decide | omega) rfl (pa_cons (pe_cN c_free hr (by first | decide | omega) rfl (pa_cons (pv 4) pa_nil)) (pa_cons (pv 11) pa_nil))) (pe_one (pe_cN c_w_pairs hr (by first | decide | omega) rfl (pa_cons (pe_cN c_bound hr (by first | decide | omega) rfl (pa_cons (pv 4) pa_nil)) (pa_cons (pv 12) pa_nil)))))))))))))))))))), ?_⟩
  walk_at "nz"
  have n1 : 1 ≤ 1 + cellV sc 0 % 4 := by have := Int.emod_nonneg (cellV sc 0) (show (4 : Int) ≠ 0 by decide); omega
  have n4 : 1 + cellV sc 0 % 4 ≤ 4 := by have := Int.emod_lt_of_pos (cellV sc 0) (show (0 : Int) < 4 by decide); omega
  refine t_asg (x := 1 + cellV sc 0 % 4) (eg_Ii (g := fun i j => i + j) eg_int (eg_Ic (g := fun i j => i % j) (eg_cell (by walk_at "ev") eg_int hl (by decide)) eg_int (by decide))) ?_
  generalize 1 + cellV sc 0 % 4 = n at n1 n4
  refine t_new (en_rowsW (by walk_at "ev") (by walk_at "ev") hl n1 (by omega)) ?_
  have GR := goodR_drawn n1 (show n ≤ 12 by omega) sc
  have few : (rowsV sc n).length ≤ 12 := by
    have h1 := rowsN_len sc n n.toNat
    have h2 : n.toNat * (n - 1).toNat ≤ 4 * 3 := Nat.mul_le_mul (by omega) (by omega)
    unfold rowsV
    omega
  generalize rowsV sc n = rows at GR few
  have G := GR.book
  have he := GR.eq
  refine t_fz 2 rfl (fun h => h) ?_
  refine t_new (en_costs (by walk_at "ev") (lt2_uq GR.srt) (by omega)) ?_
  refine t_fz 3 rfl (fun h => h) ?_
  refine t_new (en_bookW (by walk_at "ev") (by walk_at "ev") GR) ?_
  refine t_new (en_all (by walk_at "ev") (by walk_at "ev") GR n4 few) ?_
  refine t_fz 5 rfl (fun h => h) ?_
  have len := allF_len n4 few
  refine t_if (b := decide (allF n rows = [])) (et_test (eg_eqD (dt_L (dt_L dt_O)) (by walk_at "ev") (EN.fz (en_lst (l := ([] : List Fml)) eas_nil (by decide))))) (fun e => ?_) (fun e => t_go ?_)
  · have no := allF_none n1 GR.rin (of_decide_eq_true e)
    have fn := firstV_none no
    refine t_one (t_ret (x := (none : Option Int).isNone && ((none : Option Fml).isNone && decide (("lonely" : Str) = "lonely"))) (eg_and' (eg_isO (EG.eq (eg_least (by walk_at "ev") G) (by rw [he, no]))) (eg_and' (eg_isT objL (EG.eq (eg_first (by walk_at "ev") G) (by rw [he, fn]))) (eg_eqS (eg_jud0P (t := "lonely") (ep_judged (by walk_at "ev") G) fun x hx => ?_) eg_str))) ?_)
    · rw [he] at hx
      cases x with
      | inl g => rfl
      | inr l =>
        have J : Judged n rows l.1 l.2 := hx.1
        have := J.least GR.rin
        rw [no] at this
        cases this
    · rw [decide_eq_true rfl]
      exact hS
  have ne := of_decide_eq_false e
  obtain ⟨m, low⟩ := allF_some n1 GR.rin ne
  obtain ⟨lm1, lm2⟩ := low_mem n1 GR.rin low
  have fy : ((allF n rows).filter fun _ => true).map (HW.worth n rows) = (allF n rows).map (HW.worth n rows) := by rw [filter_yes]
  refine t_asg (x := m) (eg_min (l := ((allF n rows).filter fun _ => true).map (HW.worth n rows)) (EX.el (EN.ex (en_lc (τ := aI) (θ := aFam) (fun _ => true) (HW.worth n rows) (by walk_at "ev") (by omega) (fun f hf => et_yes) fun f hf _ => eg_worthW (EG.now (by walk_at "ev")) (by walk_at "ev") GR ((mem_allF n1).mp hf)))) (by rw [fy]; exact lm1) (by rw [fy]; exact lm2)) ?_
  refine t_new (κ := oL aFam) (x := goodF n rows m) (en_lcF (θ := aFam) (fun f => decide (HW.worth n rows f = m)) (by walk_at "ev") (by omega) (fun f hf => et_test (eg_eqI (eg_worthW (EG.now (by walk_at "ev")) (by walk_at "ev") GR ((mem_allF n1).mp hf)) (by walk_at "ev"))) (Nat.le_of_ble_eq_true rfl)) ?_
  refine t_fz 7 rfl (fun h => h) ?_
  have lg : (goodF n rows m).length ≤ 1728 := Nat.le_trans (List.length_filter_le _ _) len
  obtain ⟨f0, ef, eb⟩ := first_good GR low
  have fm := List.mem_of_getElem? eb
  have rest : ∀ g ∈ goodF n rows m, ∃ r, g = restF r ∧ r.length ≤ 100 := fun g hg => allF_rest GR.n2 (List.mem_filter.mp hg).1
  have gne : goodF n rows m ≠ [] := List.ne_nil_of_mem fm
  have fl : f0.length ≤ 101 := by
    obtain ⟨r, er, hr0⟩ := rest f0 fm
    rw [er, List.length_cons, List.length_map]
    omega
  refine t_forR (n := 2) (fun i => [.is (aScr K) sc, .is aI n, .is (aL aRow) rows, .is aDT (asKvs rows), .own (oBk (CB K)) (n, asKvs rows), .is (aL aFam) (allF n rows), .is aI m, .is (aL aFam) (goodF n rows m), .any, .any, .any, .any, .any, .any, .any]) (fun _ => True) eg_int (by decide) ⟨.inr rfl, .inr rfl, .inr rfl, .inr rfl, .inr rfl, .inr rfl, .inr rfl, .inr rfl, .inl rfl, .inl rfl, .inl rfl, .inl rfl, .inl rfl, .inl rfl, .inl rfl, trivial⟩ trivial (fun i hi _ => ?_) (fun _ => ?_)
  · refine t_new (en_first (by walk_at "ev") G (by rw [he]; exact ef)) ?_
    refine t_if (b := (!decide (some m = some m)) || !decide (f0 = f0)) (ET.still fun d => et_or' (et_test (eg_neO (EG.eq (eg_least (n := n) (kvs := asKvs rows) (eb_of (eg_var rfl)) G) (by rw [he]; exact low)) (EG.opt (eg_var (x := m) rfl)))) (et_test (eg_neD (dt_L dt_O) (eg_var (x := f0) rfl) (eg_minK (l := goodF n rows m) (eg_var rfl) gne rest eb)))) (fun e => ?_) (fun e => t_go ?_)
    · simp at e
    refine t_one (t_dropM (em_app (τ := aO) (x := some 0) rfl (EG.opt eg_int) (by omega)) ?_)
    exact t_end ⟨.inr rfl, .inr rfl, .inr rfl, .inr rfl, .inr rfl, .inr rfl, .inr rfl, .inr rfl, .inl rfl, .inl rfl, .inl rfl, .inl rfl, .inl rfl, .inl rfl, .inl rfl, trivial⟩ trivial
  refine t_forL (l := rows) (fun i => [.is (aScr K) sc, .is aI n, .is (aL aRow) rows, .is aDT (asKvs rows), .own (oBk (CB K)) (n, asKvs rows), .is (aL aFam) (allF n rows), .is aI m, .is (aL aFam) (goodF n rows m), .any, .any, .any, .any, .any, .any, .any]) (fun _ => True) (by walk_at "ev") ⟨.inr rfl, .inr rfl, .inr rfl, .inr rfl, .inr rfl, .inr rfl, .inr rfl, .inr rfl, .inl rfl, .inl rfl, .inl rfl, .inl rfl, .inl rfl, .inl rfl, .inl rfl, trivial⟩ trivial (fun i r hr0 _ d hd => ?_) (fun _ => ?_)
  · have hr1 := List.mem_of_getElem? hr0
    refine t_one (t_if (b := !true) (et_not (et_test (eg_call (⟨lackV n rows r.1 r.2.1, r, rows, n, m⟩ : LackQ) (ea_is (EG.eq (eg_lack (by walk_at "ev") (by walk_at "ev") (by walk_at "ev") G ⟨r.2.2, by rw [he]; exact hr1⟩) (by rw [he])) (ea_is (by walk_at "ev") (ea_is (by walk_at "ev") (ea_is (by walk_at "ev") (ea_is (by walk_at "ev") ea_nil))))) ⟨⟨GR, n4, few⟩, hr1, low, rfl⟩ rfl))) (fun e => ?_) (fun e => t_go ?_))
    · cases e
    · exact t_end ⟨.inr rfl, .inr rfl, .inr rfl, .inr rfl, .inr rfl, .inr rfl, .inr rfl, .inr rfl, .inl rfl, .inl rfl, .inl rfl, .inl rfl, .inl rfl, .inl rfl, .inl rfl, trivial⟩ trivial
  refine t_new (κ := oL (aP aI aI)) (x := []) (by walk_at "ev") ?_
  refine t_new (κ := oL (aP aI aI)) (x := []) (by walk_at "ev") ?_
  refine t_forL (l := rows) (fun i => [.is (aScr K) sc, .is aI n, .is (aL aRow) rows, .is aDT (asKvs rows), .own (oBk (CB K)) (n, asKvs rows), .is (aL aFam) (allF n rows), .is aI m, .is (aL aFam) (goodF n rows m), .any, .any, .any,
    .own (oL (aP aI aI)) (((rows.take i).filter fun r => decide (((havF n rows m r.1 r.2.1).length : Int) > 0)).map fun r => (r.1, r.2.1)), .own (oL (aP aI aI)) (((rows.take i).filter fun r => decide (((havF n rows m r.1 r.2.1).length : Int) = ((goodF n rows m).length : Int))).map fun r => (r.1, r.2.1)), .any, .any]) (fun _ => True) (by walk_at "ev") ⟨.inr rfl, .inr rfl, .inr rfl, .inr rfl, .inr rfl, .inr rfl, .inr rfl, .inr rfl, .inl rfl, .inl rfl, .inl rfl, .inr rfl, .inr rfl, .inl rfl, .inl rfl, trivial⟩ trivial (fun i r hr0 _ d hd => ?_) (fun _ => ?_)
  · have hr1 := List.mem_of_getElem? hr0
    have rg := GR.rg r hr1
    have st1 := filter_snoc (fun r : Rw3 => decide (((havF n rows m r.1 r.2.1).length : Int) > 0)) (fun r : Rw3 => (r.1, r.2.1)) hr0
    have st2 := filter_snoc (fun r : Rw3 => decide (((havF n rows m r.1 r.2.1).length : Int) = ((goodF n rows m).length : Int))) (fun r : Rw3 => (r.1, r.2.1)) hr0
    have k1 := keyed (f := fun r : Rw3 => decide (((havF n rows m r.1 r.2.1).length : Int) > 0)) (i := i) few
    have k2 := keyed (f := fun r : Rw3 => decide (((havF n rows m r.1 r.2.1).length : Int) = ((goodF n rows m).length : Int))) (i := i) few
    refine t_new (κ := oL aFam) (x := havF n rows m r.1 r.2.1) (en_lcF (θ := aFam) (hearsB r.1 r.2.1) (by walk_at "ev") (by omega) (fun f hf => ?_) (Nat.le_of_ble_eq_true rfl)) ?_
    · have I := ((mem_good n1).mp hf).1
      have pg := I.par_get (t := r.2.1) (by omega) (by omega)
      exact et_test (EG.eq (eg_eqO (i := some (HW.par f r.2.1)) (j := some r.1) (eg_ixL (by walk_at "ev") (by walk_at "ev") (at_of (by omega) pg)) (EG.opt (by walk_at "ev"))) rfl)
    refine t_fz 13 rfl (fun h => by rw [hd.j] at h; exact h) ?_
    refine t_ifG (ι := Unit) (fun _ => [.is (aScr K) sc, .is aI n, .is (aL aRow) rows, .is aDT (asKvs rows), .own (oBk (CB K)) (n, asKvs rows), .is (aL aFam) (allF n rows), .is aI m, .is (aL aFam) (goodF n rows m), .any, .any, .is aRow r,
      .own (oL (aP aI aI)) (((rows.take (i + 1)).filter fun r => decide (((havF n rows m r.1 r.2.1).length : Int) > 0)).map fun r => (r.1, r.2.1)), .own (oL (aP aI aI)) (((rows.take i).filter fun r => decide (((havF n rows m r.1 r.2.1).length : Int) = ((goodF n rows m).length : Int))).map fun r => (r.1, r.2.1)), .is (aL aFam) (havF n rows m r.1 r.2.1), .any]) (fun _ => True)
      (b := decide (((havF n rows m r.1 r.2.1).length : Int) > 0)) (et_test (eg_Ib (g := fun i j => decide (j < i)) (eg_len (τ := aFam) (by walk_at "ev")) eg_int)) (fun _ _ => ?_) (fun e kk => ?_) (fun e kk => ?_)
    · refine t_one (t_if (b := decide (((havF n rows m r.1 r.2.1).length : Int) = ((goodF n rows m).length : Int))) (et_test (eg_eqI (eg_len (τ := aFam) (by walk_at "ev")) (eg_len (τ := aFam) (by walk_at "ev")))) (fun e => ?_) (fun e => t_go ?_))
      · refine t_one (t_dropM (em_app (i := 12) (x := (r.1, r.2.1)) rfl (by walk_at "ev") (by omega)) ?_)
        refine t_end ⟨.inr rfl, .inr rfl, .inr rfl, .inr rfl, .inr rfl, .inr rfl, .inr rfl, .inr rfl, .inl rfl, .inl rfl, .inl rfl, .inr rfl, .inr ?_, .inl rfl, .inl rfl, trivial⟩ trivial
        rw [st2, if_pos e]
      · refine t_end ⟨.inr rfl, .inr rfl, .inr rfl, .inr rfl, .inr rfl, .inr rfl, .inr rfl, .inr rfl, .inl rfl, .inl rfl, .inl rfl, .inr rfl, .inr ?_, .inl rfl, .inl rfl, trivial⟩ trivial
        rw [st2, if_neg (by rw [e]; decide), List.append_nil]
    · refine t_one (t_dropM (em_app (i := 11) (x := (r.1, r.2.1)) rfl (by walk_at "ev") (by omega)) ?_)
      rw [if_pos e] at st1
      rw [← st1]
      exact kk () trivial
    · rw [if_neg (by rw [e]; decide), List.append_nil] at st1
      rw [← st1]
      exact kk () trivial
  rw [List.take_length, ← free_all GR low, ← bound_all GR low]
  refine t_ret (x := decide (freeR n rows = freeR n rows) && decide (boundR n rows = boundR n rows)) (eg_and' (eg_pairs (EGH.eq (EG.now (EN.fz (en_free (by walk_at "ev") G))) (by rw [he])) (egh_own (κ := oL (aP aI aI)) rfl)) (eg_pairs (EGH.eq (EG.now (EN.fz (en_bound (by walk_at "ev") G))) (by rw [he])) (egh_own (κ := oL (aP aI aI)) rfl))) ?_
  rw [decide_eq_true rfl, decide_eq_true rfl]
  exact hS

end
end
abbrev hR : PySem.W.OpenRow := PySem.W.OpenLaw.row PySem.Challenge.rw_hearwood_k13_whole_by_all_families
def hd_B_init : He.FnD := ⟨("Book", some "__init__"), "__init__", "Book.__init__", defArgs s_B_init, defBody s_B_init, defScope s_B_init⟩
def hd_B_many : He.FnD := ⟨("Book", some "many"), "many", "Book.many", defArgs s_B_many, defBody s_B_many, defScope s_B_many⟩
def hd_B_ask : He.FnD := ⟨("Book", some "ask"), "ask", "Book.ask", defArgs s_B_ask, defBody s_B_ask, defScope s_B_ask⟩
def hd_B_cost : He.FnD := ⟨("Book", some "cost"), "cost", "Book.cost", defArgs s_B_cost, defBody s_B_cost, defScope s_B_cost⟩
def hd_B_hearings : He.FnD := ⟨("Book", some "hearings"), "hearings", "Book.hearings", defArgs s_B_hearings, defBody s_B_hearings, defScope s_B_hearings⟩
def hd_B_let : He.FnD := ⟨("Book", some "let"), "let", "Book.let", defArgs s_B_let, defBody s_B_let, defScope s_B_let⟩
def hd_comes_up : He.FnD := ⟨("comes_up", none), "comes_up", "comes_up", defArgs s_comes_up, defBody s_comes_up, defScope s_comes_up⟩
def hd_is_family : He.FnD := ⟨("is_family", none), "is_family", "is_family", defArgs s_is_family, defBody s_is_family, defScope s_is_family⟩
def hd_worth : He.FnD := ⟨("worth", none), "worth", "worth", defArgs s_worth, defBody s_worth, defScope s_worth⟩
def hd_places_of : He.FnD := ⟨("places_of", none), "places_of", "places_of", defArgs s_places_of, defBody s_places_of, defScope s_places_of⟩
def hd_cheapest : He.FnD := ⟨("cheapest", none), "cheapest", "cheapest", defArgs s_cheapest, defBody s_cheapest, defScope s_cheapest⟩
def hd_lessened : He.FnD := ⟨("lessened", none), "lessened", "lessened", defArgs s_lessened, defBody s_lessened, defScope s_lessened⟩
def hd_joined : He.FnD := ⟨("joined", none), "joined", "joined", defArgs s_joined, defBody s_joined, defScope s_joined⟩
def hd_ring_of : He.FnD := ⟨("ring_of", none), "ring_of", "ring_of", defArgs s_ring_of, defBody s_ring_of, defScope s_ring_of⟩
def hd_solved : He.FnD := ⟨("solved", none), "solved", "solved", defArgs s_solved, defBody s_solved, defScope s_solved⟩
def hd_judged : He.FnD := ⟨("judged", none), "judged", "judged", defArgs s_judged, defBody s_judged, defScope s_judged⟩
def hd_least : He.FnD := ⟨("least", none), "least", "least", defArgs s_least, defBody s_least, defScope s_least⟩
def hd_only : He.FnD := ⟨("only", none), "only", "only", defArgs s_only, defBody s_only, defScope s_only⟩
def hd_less : He.FnD := ⟨("less", none), "less", "less", defArgs s_less, defBody s_less, defScope s_less⟩
def hd_first : He.FnD := ⟨("first", none), "first", "first", defArgs s_first, defBody s_first, defScope s_first⟩
def hd_lack : He.FnD := ⟨("lack", none), "lack", "lack", defArgs s_lack, defBody s_lack, defScope s_lack⟩
def hd_free : He.FnD := ⟨("free", none), "free", "free", defArgs s_free, defBody s_free, defScope s_free⟩
def hd_bound : He.FnD := ⟨("bound", none), "bound", "bound", defArgs s_bound, defBody s_bound, defScope s_bound⟩
def hd_w_cell_at : He.FnD := ⟨("_law_cell_at", none), "_law_cell_at", "_law_cell_at", defArgs s_w_cell_at, defBody s_w_cell_at, defScope s_w_cell_at⟩
def hd_w_whole : He.FnD := ⟨("_law_whole", none), "_law_whole", "_law_whole", defArgs s_w_whole, defBody s_w_whole, defScope s_w_whole⟩
def hd_w_mix : He.FnD := ⟨("_law_mix", none), "_law_mix", "_law_mix", defArgs s_w_mix, defBody s_w_mix, defScope s_w_mix⟩
def hd_w_rows : He.FnD := ⟨("_law_rows", none), "_law_rows", "_law_rows", defArgs s_w_rows, defBody s_w_rows, defScope s_w_rows⟩
def hd_w_book : He.FnD := ⟨("_law_book", none), "_law_book", "_law_book", defArgs s_w_book, defBody s_w_book, defScope s_w_book⟩
def hd_w_costs : He.FnD := ⟨("_law_costs", none), "_law_costs", "_law_costs", defArgs s_w_costs, defBody s_w_costs, defScope s_w_costs⟩
def hd_w_family : He.FnD := ⟨("_law_family", none), "_law_family", "_law_family", defArgs s_w_family, defBody s_w_family, defScope s_w_family⟩
def hd_w_worth : He.FnD := ⟨("_law_worth", none), "_law_worth", "_law_worth", defArgs s_w_worth, defBody s_w_worth, defScope s_w_worth⟩
def hd_w_pairs : He.FnD := ⟨("_law_pairs", none), "_law_pairs", "_law_pairs", defArgs s_w_pairs, defBody s_w_pairs, defScope s_w_pairs⟩
def hd_w_rest : He.FnD := ⟨("_law_rest", none), "_law_rest", "_law_rest", defArgs s_w_rest, defBody s_w_rest, defScope s_w_rest⟩
def hd_w_all : He.FnD := ⟨("_law_all", none), "_law_all", "_law_all", defArgs s_w_all, defBody s_w_all, defScope s_w_all⟩
def hd_w_lack_is : He.FnD := ⟨("_law_lack_is", none), "_law_lack_is", "_law_lack_is", defArgs s_w_lack_is, defBody s_w_lack_is, defScope s_w_lack_is⟩
def hd_law : He.FnD := ⟨("law", none), "law", "law", defArgs s_law, defBody s_law, defScope s_law⟩
def h_fn_0 : List He.FnD := [hd_B_init, hd_B_many, hd_B_ask, hd_B_cost, hd_B_hearings, hd_B_let, hd_comes_up, hd_is_family, hd_worth, hd_places_of, hd_cheapest, hd_lessened, hd_joined, hd_ring_of, hd_solved, hd_judged, hd_least, hd_only, hd_less, hd_first, hd_lack, hd_free, hd_bound, hd_w_cell_at, hd_w_whole, hd_w_mix, hd_w_rows, hd_w_book, hd_w_costs, hd_w_family]
def h_fn_1 : List He.FnD := [hd_w_worth, hd_w_pairs, hd_w_rest, hd_w_all, hd_w_lack_is, hd_law]
def h_fn : List He.FnD := h_fn_0 ++ h_fn_1
def h_fa_0 : List He.Fa := [.cls "Book", .noat "Book" "size", .noat "Book" "costs", .glo "Book", .mkr "Book", .meth "Book" "many", .meth "Book" "ask", .meth "Book" "let", .meth "Book" "cost", .meth "Book" "hearings", .free "len", .free "range", .free "list", .free "sorted", .free "all", .free "sum", .free "isinstance", .free "int", .free "str", .free "max", .free "min", .free "bool", .free "tuple", .free "ValueError", .int "MOST_TELLERS" 12, .glo "comes_up", .keep "comes_up", .glo "is_family", .keep "is_family", .glo "worth"]
def h_fa_1 : List He.Fa := [.keep "worth", .glo "places_of", .keep "places_of", .glo "cheapest", .keep "cheapest", .glo "ring_of", .keep "ring_of", .glo "lessened", .keep "lessened", .glo "joined", .keep "joined", .glo "solved", .keep "solved", .glo "judged", .keep "judged", .glo "least", .keep "least", .glo "only", .keep "only", .glo "less", .keep "less", .glo "first", .keep "first", .glo "lack", .keep "lack", .glo "free", .keep "free", .glo "bound", .keep "bound", .glo "_law_cell_at"]
def h_fa_2 : List He.Fa := [.keep "_law_cell_at", .glo "_law_whole", .keep "_law_whole", .glo "_law_mix", .keep "_law_mix", .glo "_law_rows", .keep "_law_rows", .glo "_law_book", .keep "_law_book", .glo "_law_costs", .keep "_law_costs", .glo "_law_family", .keep "_law_family", .glo "_law_worth", .keep "_law_worth", .glo "_law_all", .keep "_law_all", .glo "_law_pairs", .keep "_law_pairs", .glo "_law_rest", .keep "_law_rest", .glo "_law_lack_is", .keep "_law_lack_is", .glo "law", .keep "law", .glo "HearError", .exc "HearError", .glo "NoBook", .exc "NoBook", .glo "NoTeller"]
def h_fa_3 : List He.Fa := [.exc "NoTeller", .glo "Alone", .exc "Alone", .glo "First", .exc "First", .glo "NoHearing", .exc "NoHearing", .glo "NoFamily", .exc "NoFamily"]
def h_fa : List He.Fa := h_fa_0 ++ h_fa_1 ++ h_fa_2 ++ h_fa_3
def h_loose_0 : List PySem.Str := ["_wall", "__name__", "HearError", "NoBook", "NoTeller", "Alone", "First", "NoHearing", "NoFamily", "MOST_TELLERS", "Book", "comes_up", "is_family", "worth", "places_of", "cheapest", "ring_of", "lessened", "joined", "solved", "judged", "least", "only", "less", "first", "lack", "free", "bound", "_law_cell_at", "_law_whole"]
def h_loose_1 : List PySem.Str := ["_law_mix", "_law_rows", "_law_book", "_law_costs", "_law_family", "_law_worth", "_law_all", "_law_pairs", "_law_rest", "_law_lack_is"]
def h_loose : List PySem.Str := h_loose_0 ++ h_loose_1
abbrev h_hk : PySem.W.Hook := He.hookE 6 h_fa h_fn
def h_ob (s : PySem.W.SharedT) : He.Al := He.obsG 6 h_fa h_fn (HandSHeadRun.getT s)
theorem h_ob_eq (s : PySem.W.SharedT) : h_ob s = h_hk.obs s.abs := He.obsG_eq (HandSHeadRun.getT_eq s)
theorem h_run (w : World) : HandSHeadRun.RunEq hR (PySem.W.view hR.prog [45]) h_hk h_ob 20000 h_loose w := by
  intro os
  kernel_rfl
theorem txt_of {K : PySem.W.Frag} {h : Heap} {mg : Str → Option Value} (X : K.In h) (G : h.Ns mainGlobals mg) (c : He.SaysE h_fa h_fn K) : Txt K mg where
  cl := He.cls_ok (c.fact 0 (f := .cls "Book") rfl)
  nS := He.noat_ok (c.fact 1 (f := .noat "Book" "size") rfl)
  nC := He.noat_ok (c.fact 2 (f := .noat "Book" "costs") rfl)
  g_Book := He.glo_ok X G (c.fact 3 (f := .glo "Book") rfl)
  mkr := He.mkr_ok (c.fact 4 (f := .mkr "Book") rfl)
  m_B_many := He.meth_ok (c.fact 5 (f := .meth "Book" "many") rfl)
  m_B_ask := He.meth_ok (c.fact 6 (f := .meth "Book" "ask") rfl)
  m_B_let := He.meth_ok (c.fact 7 (f := .meth "Book" "let") rfl)
  m_B_cost := He.meth_ok (c.fact 8 (f := .meth "Book" "cost") rfl)
  m_B_hearings := He.meth_ok (c.fact 9 (f := .meth "Book" "hearings") rfl)
  b_len := He.free_ok X G (c.fact 10 (f := .free "len") rfl)
  b_range := He.free_ok X G (c.fact 11 (f := .free "range") rfl)
  b_list := He.free_ok X G (c.fact 12 (f := .free "list") rfl)
  b_sorted := He.free_ok X G (c.fact 13 (f := .free "sorted") rfl)
  b_all := He.free_ok X G (c.fact 14 (f := .free "all") rfl)
  b_sum := He.free_ok X G (c.fact 15 (f := .free "sum") rfl)
  b_isinstance := He.free_ok X G (c.fact 16 (f := .free "isinstance") rfl)
  b_int := He.free_ok X G (c.fact 17 (f := .free "int") rfl)
  b_str := He.free_ok X G (c.fact 18 (f := .free "str") rfl)
  b_max := He.free_ok X G (c.fact 19 (f := .free "max") rfl)
  b_min := He.free_ok X G (c.fact 20 (f := .free "min") rfl)
  b_bool := He.free_ok X G (c.fact 21 (f := .free "bool") rfl)
  b_tuple := He.free_ok X G (c.fact 22 (f := .free "tuple") rfl)
  b_ValueError := He.free_ok X G (c.fact 23 (f := .free "ValueError") rfl)
  g_MOST_TELLERS := gint_of X G (c.fact 24 (f := .int "MOST_TELLERS" 12) rfl)
  f_comes_up := He.glo_ok X G (c.fact 25 (f := .glo "comes_up") rfl)
  k_comes_up := He.keep_ok (c.fact 26 (f := .keep "comes_up") rfl)
  f_is_family := He.glo_ok X G (c.fact 27 (f := .glo "is_family") rfl)
  k_is_family := He.keep_ok (c.fact 28 (f := .keep "is_family") rfl)
  f_worth := He.glo_ok X G (c.fact 29 (f := .glo "worth") rfl)
  k_worth := He.keep_ok (c.fact 30 (f := .keep "worth") rfl)
  f_places_of := He.glo_ok X G (c.fact 31 (f := .glo "places_of") rfl)
  k_places_of := He.keep_ok (c.fact 32 (f := .keep "places_of") rfl)
  f_cheapest := He.glo_ok X G (c.fact 33 (f := .glo "cheapest") rfl)
  k_cheapest := He.keep_ok (c.fact 34 (f := .keep "cheapest") rfl)
  f_ring_of := He.glo_ok X G (c.fact 35 (f := .glo "ring_of") rfl)
  k_ring_of := He.keep_ok (c.fact 36 (f := .keep "ring_of") rfl)
  f_lessened := He.glo_ok X G (c.fact 37 (f := .glo "lessened") rfl)
  k_lessened := He.keep_ok (c.fact 38 (f := .keep "lessened") rfl)
  f_joined := He.glo_ok X G (c.fact 39 (f := .glo "joined") rfl)
  k_joined := He.keep_ok (c.fact 40 (f := .keep "joined") rfl)
  f_solved := He.glo_ok X G (c.fact 41 (f := .glo "solved") rfl)
  k_solved := He.keep_ok (c.fact 42 (f := .keep "solved") rfl)
  f_judged := He.glo_ok X G (c.fact 43 (f := .glo "judged") rfl)
  k_judged := He.keep_ok (c.fact 44 (f := .keep "judged") rfl)
  f_least := He.glo_ok X G (c.fact 45 (f := .glo "least") rfl)
  k_least := He.keep_ok (c.fact 46 (f := .keep "least") rfl)
  f_only := He.glo_ok X G (c.fact 47 (f := .glo "only") rfl)
  k_only := He.keep_ok (c.fact 48 (f := .keep "only") rfl)
  f_less := He.glo_ok X G (c.fact 49 (f := .glo "less") rfl)
  k_less := He.keep_ok (c.fact 50 (f := .keep "less") rfl)
  f_first := He.glo_ok X G (c.fact 51 (f := .glo "first") rfl)
  k_first := He.keep_ok (c.fact 52 (f := .keep "first") rfl)
  f_lack := He.glo_ok X G (c.fact 53 (f := .glo "lack") rfl)
  k_lack := He.keep_ok (c.fact 54 (f := .keep "lack") rfl)
  f_free := He.glo_ok X G (c.fact 55 (f := .glo "free") rfl)
  k_free := He.keep_ok (c.fact 56 (f := .keep "free") rfl)
  f_bound := He.glo_ok X G (c.fact 57 (f := .glo "bound") rfl)
  k_bound := He.keep_ok (c.fact 58 (f := .keep "bound") rfl)
  f_w_cell_at := He.glo_ok X G (c.fact 59 (f := .glo "_law_cell_at") rfl)
  k_w_cell_at := He.keep_ok (c.fact 60 (f := .keep "_law_cell_at") rfl)
  f_w_whole := He.glo_ok X G (c.fact 61 (f := .glo "_law_whole") rfl)
  k_w_whole := He.keep_ok (c.fact 62 (f := .keep "_law_whole") rfl)
  f_w_mix := He.glo_ok X G (c.fact 63 (f := .glo "_law_mix") rfl)
  k_w_mix := He.keep_ok (c.fact 64 (f := .keep "_law_mix") rfl)
  f_w_rows := He.glo_ok X G (c.fact 65 (f := .glo "_law_rows") rfl)
  k_w_rows := He.keep_ok (c.fact 66 (f := .keep "_law_rows") rfl)
  f_w_book := He.glo_ok X G (c.fact 67 (f := .glo "_law_book") rfl)
  k_w_book := He.keep_ok (c.fact 68 (f := .keep "_law_book") rfl)
  f_w_costs := He.glo_ok X G (c.fact 69 (f := .glo "_law_costs") rfl)
  k_w_costs := He.keep_ok (c.fact 70 (f := .keep "_law_costs") rfl)
  f_w_family := He.glo_ok X G (c.fact 71 (f := .glo "_law_family") rfl)
  k_w_family := He.keep_ok (c.fact 72 (f := .keep "_law_family") rfl)
  f_w_worth := He.glo_ok X G (c.fact 73 (f := .glo "_law_worth") rfl)
  k_w_worth := He.keep_ok (c.fact 74 (f := .keep "_law_worth") rfl)
  f_w_all := He.glo_ok X G (c.fact 75 (f := .glo "_law_all") rfl)
  k_w_all := He.keep_ok (c.fact 76 (f := .keep "_law_all") rfl)
  f_w_pairs := He.glo_ok X G (c.fact 77 (f := .glo "_law_pairs") rfl)
  k_w_pairs := He.keep_ok (c.fact 78 (f := .keep "_law_pairs") rfl)
  f_w_rest := He.glo_ok X G (c.fact 79 (f := .glo "_law_rest") rfl)
  k_w_rest := He.keep_ok (c.fact 80 (f := .keep "_law_rest") rfl)
  f_w_lack_is := He.glo_ok X G (c.fact 81 (f := .glo "_law_lack_is") rfl)
  k_w_lack_is := He.keep_ok (c.fact 82 (f := .keep "_law_lack_is") rfl)
  f_law := He.glo_ok X G (c.fact 83 (f := .glo "law") rfl)
  k_law := He.keep_ok (c.fact 84 (f := .keep "law") rfl)
  x_HearError := excF_of X G (c.fact 85 (f := .glo "HearError") rfl) (c.fact 86 (f := .exc "HearError") rfl)
  x_NoBook := excF_of X G (c.fact 87 (f := .glo "NoBook") rfl) (c.fact 88 (f := .exc "NoBook") rfl)
  x_NoTeller := excF_of X G (c.fact 89 (f := .glo "NoTeller") rfl) (c.fact 90 (f := .exc "NoTeller") rfl)
  x_Alone := excF_of X G (c.fact 91 (f := .glo "Alone") rfl) (c.fact 92 (f := .exc "Alone") rfl)
  x_First := excF_of X G (c.fact 93 (f := .glo "First") rfl) (c.fact 94 (f := .exc "First") rfl)
  x_NoHearing := excF_of X G (c.fact 95 (f := .glo "NoHearing") rfl) (c.fact 96 (f := .exc "NoHearing") rfl)
  x_NoFamily := excF_of X G (c.fact 97 (f := .glo "NoFamily") rfl) (c.fact 98 (f := .exc "NoFamily") rfl)
theorem facts {P : Program} {w : World} {K : PySem.W.Frag} {h : Heap} {mg : Str → Option Value} {f : Addr} (X : K.In h) (G : h.Ns mainGlobals mg) (hfa : mg ("law" : Str) = some (.ref f)) (c : He.SaysE h_fa h_fn K) :
    ∃ fd : FuncData, (∀ (s : Shared) (u : Value), BindsTo s fd ⟨[u], []⟩ [("script", u)]) ∧ ∀ base : Heap, K.In base → base.Ns mainGlobals mg → FnOk P w K mg base (L2.CX P w) 24 f fd ["script"] (spLaw K) := by
  have T := txt_of X G c
  obtain ⟨fd_B_init, F_B_init⟩ := funx_of (x := "__init__") (qual := "Book.__init__") (st := s_B_init) (f := He.fAd K ("Book", some "__init__")) (c.def_ 0 (d := hd_B_init) rfl)
  have b_B_init : Binds K fd_B_init P_B_init [] := F_B_init.binds fun _ _ _ _ _ _ us hl => match us, hl with | [_, _], _ => rfl
  obtain ⟨fd_B_many, F_B_many⟩ := funx_of (x := "many") (qual := "Book.many") (st := s_B_many) (f := He.fAd K ("Book", some "many")) (c.def_ 1 (d := hd_B_many) rfl)
  have b_B_many : Binds K fd_B_many P_B_many [] := F_B_many.binds fun _ _ _ _ _ _ us hl => match us, hl with | [_], _ => rfl
  obtain ⟨fd_B_ask, F_B_ask⟩ := funx_of (x := "ask") (qual := "Book.ask") (st := s_B_ask) (f := He.fAd K ("Book", some "ask")) (c.def_ 2 (d := hd_B_ask) rfl)
  have b_B_ask : Binds K fd_B_ask P_B_ask [] := F_B_ask.binds fun _ _ _ _ _ _ us hl => match us, hl with | [_, _, _], _ => rfl
  obtain ⟨fd_B_cost, F_B_cost⟩ := funx_of (x := "cost") (qual := "Book.cost") (st := s_B_cost) (f := He.fAd K ("Book", some "cost")) (c.def_ 3 (d := hd_B_cost) rfl)
  have b_B_cost : Binds K fd_B_cost P_B_cost [] := F_B_cost.binds fun _ _ _ _ _ _ us hl => match us, hl with | [_, _, _], _ => rfl
  obtain ⟨fd_B_hearings, F_B_hearings⟩ := funx_of (x := "hearings") (qual := "Book.hearings") (st := s_B_hearings) (f := He.fAd K ("Book", some "hearings")) (c.def_ 4 (d := hd_B_hearings) rfl)
  have b_B_hearings : Binds K fd_B_hearings P_B_hearings [] := F_B_hearings.binds fun _ _ _ _ _ _ us hl => match us, hl with | [_], _ => rfl
  obtain ⟨fd_B_let, F_B_let⟩ := funx_of (x := "let") (qual := "Book.let") (st := s_B_let) (f := He.fAd K ("Book", some "let")) (c.def_ 5 (d := hd_B_let) rfl)
  have b_B_let : Binds K fd_B_let P_B_let [] := F_B_let.binds fun _ _ _ _ _ _ us hl => match us, hl with | [_, _, _, _], _ => rfl
  obtain ⟨fd_comes_up, F_comes_up⟩ := funx_of (x := "comes_up") (qual := "comes_up") (st := s_comes_up) (f := He.fAd K ("comes_up", none)) (c.def_ 6 (d := hd_comes_up) rfl)
  have b_comes_up : Binds K fd_comes_up P_comes_up [] := F_comes_up.binds fun _ _ _ _ _ _ us hl => match us, hl with | [_, _], _ => rfl
  obtain ⟨fd_is_family, F_is_family⟩ := funx_of (x := "is_family") (qual := "is_family") (st := s_is_family) (f := He.fAd K ("is_family", none)) (c.def_ 7 (d := hd_is_family) rfl)
  have b_is_family : Binds K fd_is_family P_is_family [] := F_is_family.binds fun _ _ _ _ _ _ us hl => match us, hl with | [_, _], _ => rfl
  obtain ⟨fd_worth, F_worth⟩ := funx_of (x := "worth") (qual := "worth") (st := s_worth) (f := He.fAd K ("worth", none)) (c.def_ 8 (d := hd_worth) rfl)
  have b_worth : Binds K fd_worth P_worth [] := F_worth.binds fun _ _ _ _ _ _ us hl => match us, hl with | [_, _], _ => rfl
  obtain ⟨fd_places_of, F_places_of⟩ := funx_of (x := "places_of") (qual := "places_of") (st := s_places_of) (f := He.fAd K ("places_of", none)) (c.def_ 9 (d := hd_places_of) rfl)
  have b_places_of : Binds K fd_places_of P_places_of [] := F_places_of.binds fun _ _ _ _ _ _ us hl => match us, hl with | [_], _ => rfl
  obtain ⟨fd_cheapest, F_cheapest⟩ := funx_of (x := "cheapest") (qual := "cheapest") (st := s_cheapest) (f := He.fAd K ("cheapest", none)) (c.def_ 10 (d := hd_cheapest) rfl)
  have b_cheapest : Binds K fd_cheapest P_cheapest [] := F_cheapest.binds fun _ _ _ _ _ _ us hl => match us, hl with | [_, _, _], _ => rfl
  obtain ⟨fd_lessened, F_lessened⟩ := funx_of (x := "lessened") (qual := "lessened") (st := s_lessened) (f := He.fAd K ("lessened", none)) (c.def_ 11 (d := hd_lessened) rfl)
  have b_lessened : Binds K fd_lessened P_lessened [] := F_lessened.binds fun _ _ _ _ _ _ us hl => match us, hl with | [_, _, _], _ => rfl
  obtain ⟨fd_joined, F_joined⟩ := funx_of (x := "joined") (qual := "joined") (st := s_joined) (f := He.fAd K ("joined", none)) (c.def_ 12 (d := hd_joined) rfl)
  have b_joined : Binds K fd_joined P_joined [] := F_joined.binds fun _ _ _ _ _ _ us hl => match us, hl with | [_, _], _ => rfl
  obtain ⟨fd_ring_of, F_ring_of⟩ := funx_of (x := "ring_of") (qual := "ring_of") (st := s_ring_of) (f := He.fAd K ("ring_of", none)) (c.def_ 13 (d := hd_ring_of) rfl)
  have b_ring_of : Binds K fd_ring_of P_ring_of [] := F_ring_of.binds fun _ _ _ _ _ _ us hl => match us, hl with | [_, _], _ => rfl
  obtain ⟨fd_solved, F_solved⟩ := funx_of (x := "solved") (qual := "solved") (st := s_solved) (f := He.fAd K ("solved", none)) (c.def_ 14 (d := hd_solved) rfl)
  have b_solved : Binds K fd_solved P_solved [] := F_solved.binds fun _ _ _ _ _ _ us hl => match us, hl with | [_, _, _], _ => rfl
  obtain ⟨fd_judged, F_judged⟩ := funx_of (x := "judged") (qual := "judged") (st := s_judged) (f := He.fAd K ("judged", none)) (c.def_ 15 (d := hd_judged) rfl)
  have b_judged : Binds K fd_judged P_judged [] := F_judged.binds fun _ _ _ _ _ _ us hl => match us, hl with | [_], _ => rfl
  obtain ⟨fd_least, F_least⟩ := funx_of (x := "least") (qual := "least") (st := s_least) (f := He.fAd K ("least", none)) (c.def_ 16 (d := hd_least) rfl)
  have b_least : Binds K fd_least P_least [] := F_least.binds fun _ _ _ _ _ _ us hl => match us, hl with | [_], _ => rfl
  obtain ⟨fd_only, F_only⟩ := funx_of (x := "only") (qual := "only") (st := s_only) (f := He.fAd K ("only", none)) (c.def_ 17 (d := hd_only) rfl)
  have b_only : Binds K fd_only P_only [] := F_only.binds fun _ _ _ _ _ _ us hl => match us, hl with | [_, _, _], _ => rfl
  obtain ⟨fd_less, F_less⟩ := funx_of (x := "less") (qual := "less") (st := s_less) (f := He.fAd K ("less", none)) (c.def_ 18 (d := hd_less) rfl)
  have b_less : Binds K fd_less P_less [] := F_less.binds fun _ _ _ _ _ _ us hl => match us, hl with | [_, _, _], _ => rfl
  obtain ⟨fd_first, F_first⟩ := funx_of (x := "first") (qual := "first") (st := s_first) (f := He.fAd K ("first", none)) (c.def_ 19 (d := hd_first) rfl)
  have b_first : Binds K fd_first P_first [] := F_first.binds fun _ _ _ _ _ _ us hl => match us, hl with | [_], _ => rfl
  obtain ⟨fd_lack, F_lack⟩ := funx_of (x := "lack") (qual := "lack") (st := s_lack) (f := He.fAd K ("lack", none)) (c.def_ 20 (d := hd_lack) rfl)
  have b_lack : Binds K fd_lack P_lack [] := F_lack.binds fun _ _ _ _ _ _ us hl => match us, hl with | [_, _, _], _ => rfl
  obtain ⟨fd_free, F_free⟩ := funx_of (x := "free") (qual := "free") (st := s_free) (f := He.fAd K ("free", none)) (c.def_ 21 (d := hd_free) rfl)
  have b_free : Binds K fd_free P_free [] := F_free.binds fun _ _ _ _ _ _ us hl => match us, hl with | [_], _ => rfl
  obtain ⟨fd_bound, F_bound⟩ := funx_of (x := "bound") (qual := "bound") (st := s_bound) (f := He.fAd K ("bound", none)) (c.def_ 22 (d := hd_bound) rfl)
  have b_bound : Binds K fd_bound P_bound [] := F_bound.binds fun _ _ _ _ _ _ us hl => match us, hl with | [_], _ => rfl
  obtain ⟨fd_w_cell_at, F_w_cell_at⟩ := funx_of (x := "_law_cell_at") (qual := "_law_cell_at") (st := s_w_cell_at) (f := He.fAd K ("_law_cell_at", none)) (c.def_ 23 (d := hd_w_cell_at) rfl)
  have b_w_cell_at : Binds K fd_w_cell_at P_w_cell_at [] := F_w_cell_at.binds fun _ _ _ _ _ _ us hl => match us, hl with | [_, _], _ => rfl
  obtain ⟨fd_w_whole, F_w_whole⟩ := funx_of (x := "_law_whole") (qual := "_law_whole") (st := s_w_whole) (f := He.fAd K ("_law_whole", none)) (c.def_ 24 (d := hd_w_whole) rfl)
  have b_w_whole : Binds K fd_w_whole P_w_whole [] := F_w_whole.binds fun _ _ _ _ _ _ us hl => match us, hl with | [_], _ => rfl
  obtain ⟨fd_w_mix, F_w_mix⟩ := funx_of (x := "_law_mix") (qual := "_law_mix") (st := s_w_mix) (f := He.fAd K ("_law_mix", none)) (c.def_ 25 (d := hd_w_mix) rfl)
  have b_w_mix : Binds K fd_w_mix P_w_mix [] := F_w_mix.binds fun _ _ _ _ _ _ us hl => match us, hl with | [_, _], _ => rfl
  obtain ⟨fd_w_rows, F_w_rows⟩ := funx_of (x := "_law_rows") (qual := "_law_rows") (st := s_w_rows) (f := He.fAd K ("_law_rows", none)) (c.def_ 26 (d := hd_w_rows) rfl)
  have b_w_rows : Binds K fd_w_rows P_w_rows [] := F_w_rows.binds fun _ _ _ _ _ _ us hl => match us, hl with | [_, _], _ => rfl
  obtain ⟨fd_w_book, F_w_book⟩ := funx_of (x := "_law_book") (qual := "_law_book") (st := s_w_book) (f := He.fAd K ("_law_book", none)) (c.def_ 27 (d := hd_w_book) rfl)
  have b_w_book : Binds K fd_w_book P_w_book [] := F_w_book.binds fun _ _ _ _ _ _ us hl => match us, hl with | [_, _], _ => rfl
  obtain ⟨fd_w_costs, F_w_costs⟩ := funx_of (x := "_law_costs") (qual := "_law_costs") (st := s_w_costs) (f := He.fAd K ("_law_costs", none)) (c.def_ 28 (d := hd_w_costs) rfl)
  have b_w_costs : Binds K fd_w_costs P_w_costs [] := F_w_costs.binds fun _ _ _ _ _ _ us hl => match us, hl with | [_], _ => rfl
  obtain ⟨fd_w_family, F_w_family⟩ := funx_of (x := "_law_family") (qual := "_law_family") (st := s_w_family) (f := He.fAd K ("_law_family", none)) (c.def_ 29 (d := hd_w_family) rfl)
  have b_w_family : Binds K fd_w_family P_w_family [] := F_w_family.binds fun _ _ _ _ _ _ us hl => match us, hl with | [_, _, _], _ => rfl
  obtain ⟨fd_w_worth, F_w_worth⟩ := funx_of (x := "_law_worth") (qual := "_law_worth") (st := s_w_worth) (f := He.fAd K ("_law_worth", none)) (c.def_ 30 (d := hd_w_worth) rfl)
  have b_w_worth : Binds K fd_w_worth P_w_worth [] := F_w_worth.binds fun _ _ _ _ _ _ us hl => match us, hl with | [_, _], _ => rfl
  obtain ⟨fd_w_pairs, F_w_pairs⟩ := funx_of (x := "_law_pairs") (qual := "_law_pairs") (st := s_w_pairs) (f := He.fAd K ("_law_pairs", none)) (c.def_ 31 (d := hd_w_pairs) rfl)
  have b_w_pairs : Binds K fd_w_pairs P_w_pairs [] := F_w_pairs.binds fun _ _ _ _ _ _ us hl => match us, hl with | [_, _], _ => rfl
  obtain ⟨fd_w_rest, F_w_rest⟩ := funx_of (x := "_law_rest") (qual := "_law_rest") (st := s_w_rest) (f := He.fAd K ("_law_rest", none)) (c.def_ 32 (d := hd_w_rest) rfl)
  have b_w_rest : Binds K fd_w_rest P_w_rest [] := F_w_rest.binds fun _ _ _ _ _ _ us hl => match us, hl with | [_], _ => rfl
  obtain ⟨fd_w_all, F_w_all⟩ := funx_of (x := "_law_all") (qual := "_law_all") (st := s_w_all) (f := He.fAd K ("_law_all", none)) (c.def_ 33 (d := hd_w_all) rfl)
  have b_w_all : Binds K fd_w_all P_w_all [] := F_w_all.binds fun _ _ _ _ _ _ us hl => match us, hl with | [_, _], _ => rfl
  obtain ⟨fd_w_lack_is, F_w_lack_is⟩ := funx_of (x := "_law_lack_is") (qual := "_law_lack_is") (st := s_w_lack_is) (f := He.fAd K ("_law_lack_is", none)) (c.def_ 34 (d := hd_w_lack_is) rfl)
  have b_w_lack_is : Binds K fd_w_lack_is P_w_lack_is [] := F_w_lack_is.binds fun _ _ _ _ _ _ us hl => match us, hl with | [_, _, _, _, _], _ => rfl
  obtain ⟨fd_law, F_law⟩ := funx_of (x := "law") (qual := "law") (st := s_law) (f := He.fAd K ("law", none)) (c.def_ 35 (d := hd_law) rfl)
  have e := hfa.symm.trans T.f_law
  cases e
  refine ⟨fd_law, F_law.bindsA fun _ _ _ _ _ _ _ => rfl, fun base Xb Gb => ?_⟩
  have o_B_init := ok_B_init (P := P) (w := w) (base := base) F_B_init T 
  have c_Book : Mak P w K mg base 1 "Book" (CB K) (spInit K (CB K)) := ⟨⟨_, _, _, T.mkr, o_B_init, T.g_Book, b_B_init⟩⟩
  have o_B_many := ok_B_many (P := P) (w := w) (base := base) F_B_many T 
  have c_B_many : Met P w K mg base 1 (CB K) "many" (spMany K) := ⟨⟨_, _, _, T.cl, T.m_B_many, o_B_many, b_B_many⟩⟩
  have o_B_ask := ok_B_ask (P := P) (w := w) (base := base) F_B_ask T 
  have c_B_ask : Met P w K mg base 1 (CB K) "ask" (spAsk K) := ⟨⟨_, _, _, T.cl, T.m_B_ask, o_B_ask, b_B_ask⟩⟩
  have o_B_cost := ok_B_cost (P := P) (w := w) (base := base) F_B_cost T c_B_ask
  have c_B_cost : Met P w K mg base 2 (CB K) "cost" (spCost K) := ⟨⟨_, _, _, T.cl, T.m_B_cost, o_B_cost, b_B_cost⟩⟩
  have o_B_hearings := ok_B_hearings (P := P) (w := w) (base := base) F_B_hearings T 
  have c_B_hearings : Met P w K mg base 1 (CB K) "hearings" (spHear K) := ⟨⟨_, _, _, T.cl, T.m_B_hearings, o_B_hearings, b_B_hearings⟩⟩
  have o_B_let := ok_B_let (P := P) (w := w) (base := base) F_B_let T c_B_ask
  have c_B_let : Met P w K mg base 2 (CB K) "let" (spLet K (CB K)) := ⟨⟨_, _, _, T.cl, T.m_B_let, o_B_let, b_B_let⟩⟩
  have o_comes_up := ok_comes_up (P := P) (w := w) (base := base) F_comes_up T 
  have c_comes_up : Cal P w K mg base 1 "comes_up" spComes := ⟨⟨_, _, _, o_comes_up, T.f_comes_up, T.k_comes_up, b_comes_up⟩⟩
  have o_is_family := ok_is_family (P := P) (w := w) (base := base) F_is_family T c_B_many c_B_hearings c_comes_up
  have c_is_family : Cal P w K mg base 2 "is_family" (spIsFam K) := ⟨⟨_, _, _, o_is_family, T.f_is_family, T.k_is_family, b_is_family⟩⟩
  have o_worth := ok_worth (P := P) (w := w) (base := base) F_worth T c_is_family c_B_cost
  have c_worth : Cal P w K mg base 3 "worth" (spWorth K) := ⟨⟨_, _, _, o_worth, T.f_worth, T.k_worth, b_worth⟩⟩
  have o_places_of := ok_places_of (P := P) (w := w) (base := base) F_places_of T 
  have c_places_of : Cal P w K mg base 1 "places_of" spPlaces := ⟨⟨_, _, _, o_places_of, T.f_places_of, T.k_places_of, b_places_of⟩⟩
  have o_cheapest := ok_cheapest (P := P) (w := w) (base := base) F_cheapest T 
  have c_cheapest : Cal P w K mg base 1 "cheapest" spCheap := ⟨⟨_, _, _, o_cheapest, T.f_cheapest, T.k_cheapest, b_cheapest⟩⟩
  have o_lessened := ok_lessened (P := P) (w := w) (base := base) F_lessened T 
  have c_lessened : Cal P w K mg base 1 "lessened" spLessened := ⟨⟨_, _, _, o_lessened, T.f_lessened, T.k_lessened, b_lessened⟩⟩
  have o_joined := ok_joined (P := P) (w := w) (base := base) F_joined T 
  have c_joined : Cal P w K mg base 1 "joined" spJoined := ⟨⟨_, _, _, o_joined, T.f_joined, T.k_joined, b_joined⟩⟩
  have o_ring_of := ok_ring_of (P := P) (w := w) (base := base) F_ring_of T 
  have c_ring_of : Cal P w K mg base 1 "ring_of" (spRing K) := ⟨⟨_, _, _, o_ring_of, T.f_ring_of, T.k_ring_of, b_ring_of⟩⟩
  have o_solved := ok_solved (P := P) (w := w) (base := base) F_solved T c_places_of c_cheapest c_ring_of c_joined c_lessened (fun k sp h => ⟨_, _, _, h, T.f_solved, T.k_solved, b_solved⟩) 12
  have c_solved : Cal P w K mg base 14 "solved" (spSolved 12) := ⟨⟨_, _, _, o_solved, T.f_solved, T.k_solved, b_solved⟩⟩
  have o_judged := ok_judged (P := P) (w := w) (base := base) F_judged T c_B_many c_B_hearings c_solved
  have c_judged : Cal P w K mg base 15 "judged" (spJudged K) := ⟨⟨_, _, _, o_judged, T.f_judged, T.k_judged, b_judged⟩⟩
  have o_least := ok_least (P := P) (w := w) (base := base) F_least T c_judged c_worth
  have c_least : Cal P w K mg base 16 "least" (spLeast K) := ⟨⟨_, _, _, o_least, T.f_least, T.k_least, b_least⟩⟩
  have o_only := ok_only (P := P) (w := w) (base := base) F_only T c_B_many c_B_hearings c_Book c_B_let
  have c_only : Cal P w K mg base 3 "only" (spOnly K) := ⟨⟨_, _, _, o_only, T.f_only, T.k_only, b_only⟩⟩
  have o_less := ok_less (P := P) (w := w) (base := base) F_less T c_B_many c_B_hearings c_Book c_B_let
  have c_less : Cal P w K mg base 3 "less" (spLess K) := ⟨⟨_, _, _, o_less, T.f_less, T.k_less, b_less⟩⟩
  have o_first := ok_first (P := P) (w := w) (base := base) F_first T c_B_many c_B_hearings c_least c_only
  have c_first : Cal P w K mg base 17 "first" (spFirst K) := ⟨⟨_, _, _, o_first, T.f_first, T.k_first, b_first⟩⟩
  have o_lack := ok_lack (P := P) (w := w) (base := base) F_lack T c_B_cost c_least c_only
  have c_lack : Cal P w K mg base 17 "lack" (spLack K) := ⟨⟨_, _, _, o_lack, T.f_lack, T.k_lack, b_lack⟩⟩
  have o_free := ok_free (P := P) (w := w) (base := base) F_free T c_B_hearings c_lack
  have c_free : Cal P w K mg base 18 "free" (spFree K) := ⟨⟨_, _, _, o_free, T.f_free, T.k_free, b_free⟩⟩
  have o_bound := ok_bound (P := P) (w := w) (base := base) F_bound T c_free c_least c_less
  have c_bound : Cal P w K mg base 19 "bound" (spBound K) := ⟨⟨_, _, _, o_bound, T.f_bound, T.k_bound, b_bound⟩⟩
  have o_w_cell_at := ok_w_cell_at (P := P) (w := w) (base := base) F_w_cell_at T 
  have c_w_cell_at : Cal P w K mg base 1 "_law_cell_at" (spCell K) := ⟨⟨_, _, _, o_w_cell_at, T.f_w_cell_at, T.k_w_cell_at, b_w_cell_at⟩⟩
  have o_w_whole := ok_w_whole (P := P) (w := w) (base := base) F_w_whole T 
  have c_w_whole : Cal P w K mg base 1 "_law_whole" spWhole := ⟨⟨_, _, _, o_w_whole, T.f_w_whole, T.k_w_whole, b_w_whole⟩⟩
  have o_w_mix := ok_w_mix (P := P) (w := w) (base := base) F_w_mix T 
  have c_w_mix : Cal P w K mg base 1 "_law_mix" spMix := ⟨⟨_, _, _, o_w_mix, T.f_w_mix, T.k_w_mix, b_w_mix⟩⟩
  have o_w_rows := ok_w_rows (P := P) (w := w) (base := base) F_w_rows T c_w_cell_at c_w_mix
  have c_w_rows : Cal P w K mg base 2 "_law_rows" (spRows K) := ⟨⟨_, _, _, o_w_rows, T.f_w_rows, T.k_w_rows, b_w_rows⟩⟩
  have o_w_book := ok_w_book (P := P) (w := w) (base := base) F_w_book T c_Book c_B_let
  have c_w_book : Cal P w K mg base 3 "_law_book" (spBookW K) := ⟨⟨_, _, _, o_w_book, T.f_w_book, T.k_w_book, b_w_book⟩⟩
  have o_w_costs := ok_w_costs (P := P) (w := w) (base := base) F_w_costs T 
  have c_w_costs : Cal P w K mg base 1 "_law_costs" spCosts := ⟨⟨_, _, _, o_w_costs, T.f_w_costs, T.k_w_costs, b_w_costs⟩⟩
  have o_w_family := ok_w_family (P := P) (w := w) (base := base) F_w_family T c_w_whole
  have c_w_family : Cal P w K mg base 2 "_law_family" spFamW := ⟨⟨_, _, _, o_w_family, T.f_w_family, T.k_w_family, b_w_family⟩⟩
  have o_w_worth := ok_w_worth (P := P) (w := w) (base := base) F_w_worth T 
  have c_w_worth : Cal P w K mg base 1 "_law_worth" spWorthW := ⟨⟨_, _, _, o_w_worth, T.f_w_worth, T.k_w_worth, b_w_worth⟩⟩
  have o_w_pairs := ok_w_pairs (P := P) (w := w) (base := base) F_w_pairs T c_w_whole
  have c_w_pairs : Cal P w K mg base 2 "_law_pairs" spPairs := ⟨⟨_, _, _, o_w_pairs, T.f_w_pairs, T.k_w_pairs, b_w_pairs⟩⟩
  have o_w_rest := ok_w_rest (P := P) (w := w) (base := base) F_w_rest T 
  have c_w_rest : Cal P w K mg base 1 "_law_rest" spRest := ⟨⟨_, _, _, o_w_rest, T.f_w_rest, T.k_w_rest, b_w_rest⟩⟩
  have o_w_all := ok_w_all (P := P) (w := w) (base := base) F_w_all T c_w_costs c_w_family
  have c_w_all : Cal P w K mg base 3 "_law_all" spAll := ⟨⟨_, _, _, o_w_all, T.f_w_all, T.k_w_all, b_w_all⟩⟩
  have o_w_lack_is := ok_w_lack_is (P := P) (w := w) (base := base) F_w_lack_is T c_w_worth c_w_whole
  have c_w_lack_is : Cal P w K mg base 2 "_law_lack_is" spLackW := ⟨⟨_, _, _, o_w_lack_is, T.f_w_lack_is, T.k_w_lack_is, b_w_lack_is⟩⟩
  exact ok_law F_law T c_w_cell_at c_w_rows c_w_costs c_w_book c_w_all c_least c_first c_judged c_w_worth c_w_rest c_lack c_w_lack_is c_w_pairs c_free c_bound
end HG
open PySem PySem.W PySem.Calls PyProof.Rows
theorem PySem.Challenge.cw_hearwood_k13_whole_by_all_families_holds : PySem.Challenge.rw_hearwood_k13_whole_by_all_families.Holds := by
  w_on; o_law
  refine HandSHeadRun.head_any (r := OpenLaw.row PySem.Challenge.rw_hearwood_k13_whole_by_all_families) (q := view (OpenLaw.row PySem.Challenge.rw_hearwood_k13_whole_by_all_families).prog [45]) (H := HG.h_hk) (ob := HG.h_ob) (M := 20000) (loose := HG.h_loose) (d := HandSHeadRun.topDef (OpenLaw.row PySem.Challenge.rw_hearwood_k13_whole_by_all_families).prog 45) (kwd := []) HG.h_ob_eq
    (by kernel_rfl) (fun s => by kernel_rfl) HG.h_run (by kernel_rfl) (by kernel_rfl) (by kernel_rfl) (by rfl) (by first | assumption | decide +kernel) (by decide +kernel) ⟨rfl, rfl, rfl, rfl, rfl, by decide +kernel⟩ ?hw ?hc
  case hw => w_witness2
  case hc =>
    refine HG.walk_ofG (l := PySem.Challenge.rw_hearwood_k13_whole_by_all_families) (n := 63) (k := 24) (x := "script") rfl (by decide) (by kernel_rfl) ⟨rfl, by decide, by decide⟩ ?F
    intro w mg fa h Y G hmg0
    obtain ⟨K, KX, c⟩ := Y
    have hmg : mg ("law" : PySem.Str) = some (.ref fa) := by
      have e : (HandSHeadRun.topDef (OpenLaw.row PySem.Challenge.rw_hearwood_k13_whole_by_all_families).prog 45).name = ("law" : PySem.Str) := by kernel_rfl
      rw [← e]
      exact hmg0
    obtain ⟨fd, hb, hF⟩ := HG.facts (P := (PySem.Challenge.rw_hearwood_k13_whole_by_all_families).prog) (w := w) KX G hmg c
    exact ⟨K, fd, HG.spLaw K, KX, hb, fun H a ns hl _ hS => HG.law_sp H a ns hl hS, hF⟩
