import PyProof.Rows.All
import HandS.ForExc
import HandS.ForMost
import HandS.IsInst
import HandS.Flow
import HandS.FStr
import HandS.TupAny
import HandS.Style
import HandS.Walk
import HandS.Conv
import HandS.More
import HandS.Defaults
import HandS.CallSlots
import HandS.DictComp
import HandS.Deep
import HandS.Lambda
import HandS.AnyAll
import HandS.RaiseMore
import HandS.Small
import HandS.Zip
import HandS.Codes
import KE.KDictList
import HandS.JoinGen
import PyProof.TupleOfGen
import HandS.HeadHook4
import HandS.HeadWalk
import HandS.Head2
import HandS.Head0
import HandS.Head1
import HandS.HeadEnd
import HandS.HeadHook1
import HandS.HeadHook2
import PyProof.P3Eq
import PySem.Challenge.RW_lambdastack_k01_terms_told_as_text
set_option Elab.async false
set_option linter.all false
set_option maxRecDepth 100000
set_option maxHeartbeats 8000000

/-! Ev: a reckoner over plain values, sound over HandS. -/
namespace Ev
open PySem PySem.Spec PyProof.Rows L2

abbrev St := L2.St
abbrev LINE : Nat := 16777216
theorem line_eq : sizeLine = LINE := sizeLine_eq

/-! ### plain values -/
inductive PV where
  | non | bl (b : Bool) | int (i : Int) | str (s : List Nat) | tup (xs : List PV) | loc (l : Nat)
  deriving Inhabited
/-- what stands at a place of the store -/
inductive SO where
  | lst (xs : List PV) | rol (xs : List PV) | dic (kvs : List (PV × PV)) | ins (c : Nat) (fs : List (Str × PV)) | lam (j : Nat)
  deriving Inhabited
abbrev Store := List SO
inductive R (α : Type) where
  | ok (a : α) (S : Store) | exc (c : Nat) (S : Store) | bad
def R.bind {α β : Type} (r : R α) (k : α → Store → R β) : R β := match r with
  | .ok a S => k a S
  | .exc c S => .exc c S
  | .bad => .bad
def R.ofO {α : Type} : Option (α × Store) → R α
  | some (a, S) => .ok a S
  | none => .bad
abbrev Env' := List (Option PV)

/-! ### how values are borne by the heap -/
mutual
inductive Rp (K : PySem.W.Frag) (μ : List Addr) (H : Hp) : PV → V → Prop
  | non : Rp K μ H .non .non
  | bl (b : Bool) : Rp K μ H (.bl b) (.bl b)
  | int (i : Int) : Rp K μ H (.int i) (.int i)
  | str (s : List Nat) : Rp K μ H (.str s) (.str ⟨s.toArray⟩)
  | tup {a : Addr} {vs : List V} {xs : List PV} (h : SqT K H a vs) (r : Rps K μ H xs vs) : Rp K μ H (.tup xs) (.ref a)
  | loc {a : Addr} {l : Nat} (h : μ[l]? = some a) : Rp K μ H (.loc l) (.ref a)
inductive Rps (K : PySem.W.Frag) (μ : List Addr) (H : Hp) : List PV → List V → Prop
  | nil : Rps K μ H [] []
  | cons {x : PV} {v : V} {xs : List PV} {vs : List V} (h : Rp K μ H x v) (r : Rps K μ H xs vs) : Rps K μ H (x :: xs) (v :: vs)
end

/-- a lambda without captured names: its maker's name for it, its text -/
structure LamT where
  q : Str
  params : Arguments
  body : Expr
  scope : Scope
/-- the function object at a is that lambda, its code object at c -/
def LamO (t : LamT) (a c : Addr) : HO := .ext fun h => ∃ (pm ctv : Value), h.get? a = some (PySem.W.kla_obj "<lambda>" t.q t.params t.body t.scope [] pm c ctv)
structure G where
  K : PySem.W.Frag
  cv : Nat → Value
  T : List (Addr × Option Str)
  lt : Nat → LamT

/-- tuples (and what is known) stay -/
def Le (K : PySem.W.Frag) (H H' : Hp) : Prop := ∀ a vs, SqT K H a vs → SqT K H' a vs
theorem Le.refl {K : PySem.W.Frag} {H : Hp} : Le K H H := fun _ _ h => h
theorem Le.trans {K : PySem.W.Frag} {H H1 H2 : Hp} (a : Le K H H1) (b : Le K H1 H2) : Le K H H2 := fun _ _ h => b _ _ (a _ _ h)
/-- an object may be laid or written at a, where no tuple and nothing known stands -/
def Wr (H : Hp) (a : Addr) : Prop := (∀ vs, H a ≠ some (.tup vs)) ∧ (∀ o u, H a ≠ some (.frz o u)) ∧ (∀ ps, H a ≠ some (.tbl ps)) ∧ ∀ p, H a ≠ some (.ext p)
theorem Wr.none {H : Hp} {a : Addr} (h : H a = none) : Wr H a := ⟨fun _ z => (by rw [h] at z; cases z), fun _ _ z => (by rw [h] at z; cases z), fun _ z => (by rw [h] at z; cases z), fun _ z => (by rw [h] at z; cases z)⟩
theorem Wr.lst {H : Hp} {a : Addr} {vs : List V} (h : H a = some (.lst vs)) : Wr H a := ⟨fun _ z => (by rw [h] at z; cases z), fun _ _ z => (by rw [h] at z; cases z), fun _ z => (by rw [h] at z; cases z), fun _ z => (by rw [h] at z; cases z)⟩
theorem Wr.dK {H : Hp} {a : Addr} {vs : List (Key × V)} (h : H a = some (.dK vs)) : Wr H a := ⟨fun _ z => (by rw [h] at z; cases z), fun _ _ z => (by rw [h] at z; cases z), fun _ z => (by rw [h] at z; cases z), fun _ z => (by rw [h] at z; cases z)⟩
theorem Wr.ins {H : Hp} {a C dx : Addr} {fs : List (Str × V)} (h : H a = some (.ins C dx fs)) : Wr H a := ⟨fun _ z => (by rw [h] at z; cases z), fun _ _ z => (by rw [h] at z; cases z), fun _ z => (by rw [h] at z; cases z), fun _ z => (by rw [h] at z; cases z)⟩
theorem Le.upd {K : PySem.W.Frag} {H : Hp} {a : Addr} {o : HO} (w : Wr H a) : Le K H (upd H a o) := fun b vs h => by
  rcases h with (h | ⟨ob, h⟩) | h
  · by_cases e : b = a
    · subst e; exact absurd h (w.1 _)
    · exact .inl (.inl (by rw [upd_ne e]; exact h))
  · by_cases e : b = a
    · subst e; exact absurd h (w.2.1 _ _)
    · exact .inl (.inr ⟨ob, by rw [upd_ne e]; exact h⟩)
  · exact .inr h

/-- places only come behind -/
abbrev Pre (μ μ' : List Addr) : Prop := ∃ t, μ' = μ ++ t
theorem Pre.refl {μ : List Addr} : Pre μ μ := ⟨[], by simp⟩
theorem Pre.trans {a b c : List Addr} (h : Pre a b) (k : Pre b c) : Pre a c := by
  obtain ⟨t, rfl⟩ := h; obtain ⟨u, rfl⟩ := k; exact ⟨t ++ u, by simp⟩
theorem Pre.get {μ μ' : List Addr} (h : Pre μ μ') {l : Nat} {a : Addr} (e : μ[l]? = some a) : μ'[l]? = some a := by
  obtain ⟨t, rfl⟩ := h
  rw [List.getElem?_append_left (List.getElem?_eq_some_iff.mp e).1]; exact e

mutual
theorem Rp.mono {K : PySem.W.Frag} {μ μ' : List Addr} {H H' : Hp} (p : Pre μ μ') (l : Le K H H') : ∀ {x : PV} {v : V}, Rp K μ H x v → Rp K μ' H' x v
  | _, _, .non => .non
  | _, _, .bl b => .bl b
  | _, _, .int i => .int i
  | _, _, .str s => .str s
  | _, _, .tup h r => .tup (l _ _ h) (Rps.mono p l r)
  | _, _, .loc h => .loc (p.get h)
theorem Rps.mono {K : PySem.W.Frag} {μ μ' : List Addr} {H H' : Hp} (p : Pre μ μ') (l : Le K H H') : ∀ {x : List PV} {v : List V}, Rps K μ H x v → Rps K μ' H' x v
  | _, _, .nil => .nil
  | _, _, .cons h r => .cons (Rp.mono p l h) (Rps.mono p l r)
end
section
variable {K : PySem.W.Frag} {μ : List Addr} {H : Hp}
theorem Rps.length : ∀ {xs : List PV} {vs : List V}, Rps K μ H xs vs → xs.length = vs.length
  | _, _, .nil => rfl
  | _, _, .cons _ r => congrArg Nat.succ (Rps.length r)
theorem Rps.get : ∀ {xs : List PV} {vs : List V} {i : Nat} {x : PV}, Rps K μ H xs vs → xs[i]? = some x → ∃ v, vs[i]? = some v ∧ Rp K μ H x v
  | _, _, _, _, .nil, e => by simp at e
  | _, _, 0, _, .cons h _, e => by simp at e; subst e; exact ⟨_, rfl, h⟩
  | _, _, i + 1, x, .cons _ r, e => by
    obtain ⟨v, h1, h2⟩ := Rps.get (i := i) (x := x) r (by simpa using e)
    exact ⟨v, by simpa using h1, h2⟩
theorem Rps.getV : ∀ {xs : List PV} {vs : List V} {i : Nat} {v : V}, Rps K μ H xs vs → vs[i]? = some v → ∃ x, xs[i]? = some x ∧ Rp K μ H x v
  | _, _, _, _, .nil, e => by simp at e
  | _, _, 0, _, .cons h _, e => by simp at e; subst e; exact ⟨_, rfl, h⟩
  | _, _, i + 1, x, .cons _ r, e => by
    obtain ⟨v, h1, h2⟩ := Rps.getV (i := i) (v := x) r (by simpa using e)
    exact ⟨v, by simpa using h1, h2⟩
theorem Rps.append : ∀ {xs ys : List PV} {vs ws : List V}, Rps K μ H xs vs → Rps K μ H ys ws → Rps K μ H (xs ++ ys) (vs ++ ws)
  | _, _, _, _, .nil, s => s
  | _, _, _, _, .cons h r, s => .cons h (Rps.append r s)
theorem Rps.take : ∀ {xs : List PV} {vs : List V} (n : Nat), Rps K μ H xs vs → Rps K μ H (xs.take n) (vs.take n)
  | _, _, 0, _ => .nil
  | _, _, _ + 1, .nil => .nil
  | _, _, n + 1, .cons h r => .cons h (Rps.take n r)
theorem Rps.drop : ∀ {xs : List PV} {vs : List V} (n : Nat), Rps K μ H xs vs → Rps K μ H (xs.drop n) (vs.drop n)
  | _, _, 0, r => r
  | _, _, _ + 1, .nil => .nil
  | _, _, n + 1, .cons _ r => Rps.drop n r
theorem Rps.set : ∀ {xs : List PV} {vs : List V} (n : Nat) {x : PV} {v : V}, Rps K μ H xs vs → Rp K μ H x v → Rps K μ H (xs.set n x) (vs.set n v)
  | _, _, _, _, _, .nil, _ => .nil
  | _, _, 0, _, _, .cons _ r, q => .cons q r
  | _, _, n + 1, _, _, .cons h r, q => .cons h (Rps.set n r q)
theorem Rps.rev {xs : List PV} {vs : List V} (h : Rps K μ H xs vs) : Rps K μ H xs.reverse vs.reverse := by
  induction xs generalizing vs with
  | nil => cases h; exact .nil
  | cons x xs ih =>
    cases h with
    | cons a b => rw [List.reverse_cons, List.reverse_cons]; exact (ih b).append (.cons a .nil)
theorem Rps.snoc {xs : List PV} {vs : List V} {x : PV} {v : V} (h : Rps K μ H xs vs) (q : Rp K μ H x v) : Rps K μ H (xs ++ [x]) (vs ++ [v]) := h.append (.cons q .nil)
theorem Rps.none_of {xs : List PV} {vs : List V} {i : Nat} (h : Rps K μ H xs vs) (e : xs[i]? = none) : vs[i]? = none := by
  rw [List.getElem?_eq_none_iff] at e ⊢; rw [← h.length]; exact e
theorem Rps.vals2 {xs : List PV} {v w : V} (h : Rps K μ H xs [v, w]) : ∃ x y, xs = [x, y] ∧ Rp K μ H x v ∧ Rp K μ H y w := by
  cases h with
  | cons a b => cases b with
    | cons c d => cases d; exact ⟨_, _, rfl, a, c⟩
theorem Rps.nil_of {xs : List PV} {vs : List V} (h : Rps K μ H xs vs) (e : xs = []) : vs = [] := by subst e; cases h; rfl
end

/-- a key -/
inductive Rk : PV → Key → Prop
  | int (i : Int) : Rk (.int i) (.inl i)
  | str (s : List Nat) : Rk (.str s) (.inr ⟨s.toArray⟩)
inductive Rkv (K : PySem.W.Frag) (μ : List Addr) (H : Hp) : List (PV × PV) → List (Key × V) → Prop
  | nil : Rkv K μ H [] []
  | cons {k : PV} {k' : Key} {x : PV} {v : V} {xs : List (PV × PV)} {vs : List (Key × V)} (hk : Rk k k') (h : Rp K μ H x v) (r : Rkv K μ H xs vs) : Rkv K μ H ((k, x) :: xs) ((k', v) :: vs)
theorem Rkv.mono {K : PySem.W.Frag} {μ μ' : List Addr} {H H' : Hp} (p : Pre μ μ') (l : Le K H H') : ∀ {x : List (PV × PV)} {v : List (Key × V)}, Rkv K μ H x v → Rkv K μ' H' x v
  | _, _, .nil => .nil
  | _, _, .cons hk h r => .cons hk (h.mono p l) (Rkv.mono p l r)
inductive Rfs (K : PySem.W.Frag) (μ : List Addr) (H : Hp) : List (Str × PV) → List (Str × V) → Prop
  | nil : Rfs K μ H [] []
  | cons {k : Str} {x : PV} {v : V} {xs : List (Str × PV)} {vs : List (Str × V)} (h : Rp K μ H x v) (r : Rfs K μ H xs vs) : Rfs K μ H ((k, x) :: xs) ((k, v) :: vs)
theorem Rfs.mono {K : PySem.W.Frag} {μ μ' : List Addr} {H H' : Hp} (p : Pre μ μ') (l : Le K H H') : ∀ {x : List (Str × PV)} {v : List (Str × V)}, Rfs K μ H x v → Rfs K μ' H' x v
  | _, _, .nil => .nil
  | _, _, .cons h r => .cons (h.mono p l) (Rfs.mono p l r)

/-- what is only read: known to its object, or of the written part -/
def RoL (K : PySem.W.Frag) (H : Hp) (a : Addr) (xs : List V) : Prop := (∃ o, H a = some (.frz o (.lst xs))) ∨
    ∃ (o : Obj) (its : Array Value) (n : Nat), K.lookup a = some o ∧ o.cls = .type "list" ∧ o.dict = none ∧ o.data = .seq its n ∧ its.size ≤ sizeLine ∧ Vals xs its.toList
theorem RoL.sq {K : PySem.W.Frag} {H : Hp} {a : Addr} {xs : List V} (h : RoL K H a xs) : SqL K H a xs := h.elim (fun h => .inl (.inr h)) .inr
def SO.mut : SO → Bool
  | .rol _ => false
  | .lam _ => false
  | _ => true
def Ro (g : G) (μ : List Addr) (H : Hp) (a : Addr) : SO → Prop
  | .lst xs => ∃ vs, H a = some (.lst vs) ∧ Rps g.K μ H xs vs
  | .rol xs => ∃ vs, RoL g.K H a vs ∧ Rps g.K μ H xs vs
  | .dic kvs => ∃ ks, H a = some (.dK ks) ∧ Rkv g.K μ H kvs ks
  | .ins c fs => ∃ (C dx : Addr) (vs : List (Str × V)), g.cv c = .ref C ∧ H a = some (.ins C dx vs) ∧ Rfs g.K μ H fs vs
  | .lam j => ∃ c, H a = some (LamO (g.lt j) a c) ∧ H c = some (LamX.CodeO c (g.lt j).q)
/-- a table of code objects; of a def that makes lambdas, all bear their name -/
def TabN (H : Hp) (p : Addr × Option Str) : Prop := match p.2 with
  | none => GxR.TabG H p.1
  | some q => LamX.TabS H p.1 q
structure RS (g : G) (μ : List Addr) (S : Store) (H : Hp) : Prop where
  len : μ.length = S.length
  nd : ∀ (l l' : Nat) (a : Addr) (o o' : SO), μ[l]? = some a → μ[l']? = some a → S[l]? = some o → S[l']? = some o' → o.mut = true → o'.mut = true → l = l'
  obj : ∀ (l : Nat) (a : Addr) (o : SO), μ[l]? = some a → S[l]? = some o → Ro g μ H a o
  tabs : ∀ p ∈ g.T, TabN H p
structure RE (K : PySem.W.Frag) (μ : List Addr) (H : Hp) (ρ : Env') (σ : St) : Prop where
  len : ρ.length = σ.length
  at_ : ∀ (i : Nat) (v : PV), ρ[i]? = some (some v) → ∃ x, σ[i]? = some (some x) ∧ Rp K μ H v x
theorem RE.mono {K : PySem.W.Frag} {μ μ' : List Addr} {H H' : Hp} {ρ : Env'} {σ : St} (h : RE K μ H ρ σ) (p : Pre μ μ') (l : Le K H H') : RE K μ' H' ρ σ :=
  ⟨h.len, fun i v e => let ⟨x, a, b⟩ := h.at_ i v e; ⟨x, a, b.mono p l⟩⟩
theorem RE.set {K : PySem.W.Frag} {μ : List Addr} {H : Hp} {ρ : Env'} {σ : St} (h : RE K μ H ρ σ) {v : PV} {x : V} (r : Rp K μ H v x) (i : Nat) : RE K μ H (ρ.set i (some v)) (σ.set i (some x)) := by
  refine ⟨by simp [h.len], fun j w e => ?_⟩
  by_cases hj : i = j
  · subst hj
    by_cases hl : i < ρ.length
    · rw [List.getElem?_set_self hl] at e
      cases e
      exact ⟨x, List.getElem?_set_self (by rw [← h.len]; exact hl), r⟩
    · rw [List.getElem?_eq_none (by simpa using hl)] at e; cases e
  · rw [List.getElem?_set_ne hj] at e
    rw [List.getElem?_set_ne hj]
    exact h.at_ j w e

/-! ### what is wanted of an outcome -/
def Post (g : G) (W : Nat → List Addr → Store → Hp → Prop) (μ : List Addr) (H : Hp) {α β : Type} (rel : List Addr → Hp → α → β → Prop) (r : R α) (Q : β → Hp → Prop) : Prop := match r with
  | .ok a S' => ∀ μ' x H', Pre μ μ' → Le g.K H H' → RS g μ' S' H' → rel μ' H' a x → Q x H'
  | .exc c S' => ∀ μ' H', Pre μ μ' → Le g.K H H' → RS g μ' S' H' → W c μ' S' H'
  | .bad => False
/-- the wish about an exception at given slots -/
def wx (g : G) (W : WX) (σ : St) : Nat → List Addr → Store → Hp → Prop := fun c _ _ H => W (g.cv c) none σ H
abbrev PostE (g : G) (W : WX) (σ : St) (μ : List Addr) (H : Hp) (r : R PV) (Q : VK) : Prop := Post g (wx g W σ) μ H (Rp g.K) r Q
abbrev PostA (g : G) (W : WX) (σ : St) (μ : List Addr) (H : Hp) (r : R (List PV)) (Q : List V → Hp → Prop) : Prop := Post g (wx g W σ) μ H (Rps g.K) r Q
abbrev PostB (g : G) (W : WX) (σ : St) (μ : List Addr) (H : Hp) (r : R Bool) (Q : Bool → Hp → Prop) : Prop := Post g (wx g W σ) μ H (fun _ _ a b => a = b) r Q

section
variable {g : G} {W : Nat → List Addr → Store → Hp → Prop} {μ : List Addr} {H : Hp} {α β γ δ : Type} {rel : List Addr → Hp → α → β → Prop} {rel2 : List Addr → Hp → γ → δ → Prop}
theorem Post.imp {r : R α} {Q Q' : β → Hp → Prop} (p : Post g W μ H rel r Q) (h : ∀ x H', Q x H' → Q' x H') : Post g W μ H rel r Q' := by
  cases r with
  | ok a S' => exact fun μ' x H' a b c d => h _ _ (p μ' x H' a b c d)
  | exc c S' => exact p
  | bad => exact p
theorem Post.later {μ1 : List Addr} {H1 : Hp} {r : R α} {Q : β → Hp → Prop} (p : Post g W μ H rel r Q) (hp : Pre μ μ1) (hl : Le g.K H H1) : Post g W μ1 H1 rel r Q := by
  cases r with
  | ok a S' => exact fun μ' x H' a b c d => p μ' x H' (hp.trans a) (hl.trans b) c d
  | exc c S' => exact fun μ' H' a b c => p μ' H' (hp.trans a) (hl.trans b) c
  | bad => exact p
/-- one behind another -/
theorem Post.bind {r : R α} {k : α → Store → R γ} {Q : δ → Hp → Prop} (p : Post g W μ H rel2 (r.bind k) Q) :
    Post g W μ H rel r (fun x H1 => ∃ μ1 a S1, Pre μ μ1 ∧ Le g.K H H1 ∧ RS g μ1 S1 H1 ∧ rel μ1 H1 a x ∧ Post g W μ1 H1 rel2 (k a S1) Q) := by
  cases r with
  | ok a S' => exact fun μ' x H' hp hl rs rl => ⟨μ', a, S', hp, hl, rs, rl, Post.later (r := k a S') p hp hl⟩
  | exc c S' => exact p
  | bad => exact p
theorem Post.ofO {o : Option (α × Store)} {Q : β → Hp → Prop} (p : Post g W μ H rel (R.ofO o) Q) : ∃ a S', o = some (a, S') ∧ ∀ μ' x H', Pre μ μ' → Le g.K H H' → RS g μ' S' H' → rel μ' H' a x → Q x H' := by
  cases o with
  | none => exact p.elim
  | some q => obtain ⟨a, S'⟩ := q; exact ⟨a, S', rfl, p⟩
theorem Post.here {r : α} {S : Store} {Q : β → Hp → Prop} {x : β} (p : Post g W μ H rel (.ok r S) Q) (rs : RS g μ S H) (h : rel μ H r x) : Q x H := p μ x H .refl .refl rs h
end

/-! ### readings -/
def tEv (g : G) (W : WX) (f : Env' → Store → R PV) : TE := fun σ H Q => ∃ μ ρ S, RE g.K μ H ρ σ ∧ RS g μ S H ∧ PostE g W σ μ H (f ρ S) Q
def tEvA (g : G) (W : WX) (f : Env' → Store → R (List PV)) : TA := fun σ H Q => ∃ μ ρ S, RE g.K μ H ρ σ ∧ RS g μ S H ∧ PostA g W σ μ H (f ρ S) Q
def tEvB (g : G) (W : WX) (f : Env' → Store → R Bool) : TT := fun σ H Q => ∃ μ ρ S, RE g.K μ H ρ σ ∧ RS g μ S H ∧ PostB g W σ μ H (f ρ S) Q
abbrev SE (X : Cx) (g : G) (W : WX) (e : Expr) (f : Env' → Store → R PV) : Prop := PE X e (tEv g W f)
abbrev SA (X : Cx) (g : G) (W : WX) (es : List Expr) (f : Env' → Store → R (List PV)) : Prop := PA X es (tEvA g W f)
abbrev ST (X : Cx) (g : G) (W : WX) (e : Expr) (f : Env' → Store → R Bool) : Prop := PT X e (tEvB g W f)

section
variable {X : Cx}
theorem PEimp {e : Expr} {t t' : TE} (h : PE X e t) (i : ∀ σ H Q, t' σ H Q → t σ H Q) : PE X e t' := ⟨fun pins s σ H Q I q => h.run pins s σ H Q I (i _ _ _ q)⟩
theorem PAimp {e : List Expr} {t t' : TA} (h : PA X e t) (i : ∀ σ H Q, t' σ H Q → t σ H Q) : PA X e t' := ⟨fun pos pins s σ H Q I q => h.run pos pins s σ H Q I (i _ _ _ q)⟩
theorem PTimp {e : Expr} {t t' : TT} (h : PT X e t) (i : ∀ σ H Q, t' σ H Q → t σ H Q) : PT X e t' := ⟨fun pins s σ H Q I q => h.run pins s σ H Q I (i _ _ _ q)⟩
theorem PWimp {e : Expr} {t t' : TT} (h : PW X e t) (i : ∀ σ H Q, t' σ H Q → t σ H Q) : PW X e t' := ⟨fun wh pins s σ H Q I q => h.run wh pins s σ H Q I (i _ _ _ q)⟩
theorem PSimp {e : Stmt} {t t' : TS} (h : PS X e t) (i : ∀ D σ H, t' D σ H → t D σ H) : PS X e t' := ⟨fun pins s σ H D I q => h.run pins s σ H D I (i _ _ _ q)⟩
theorem PSsimp {e : List Stmt} {t t' : TS} (h : PSs X e t) (i : ∀ D σ H, t' D σ H → t D σ H) : PSs X e t' := ⟨fun pins s σ H D I q => h.run pins s σ H D I (i _ _ _ q)⟩
end

/-! ### expressions as functions -/
def eVar (i : Nat) : Env' → Store → R PV := fun ρ S => match ρ[i]? with
  | some (some v) => .ok v S
  | _ => .bad
def eC (v : PV) : Env' → Store → R PV := fun _ S => .ok v S
abbrev BOp := PV → PV → Store → Option (PV × Store)
def eBin (op : BOp) (a b : Env' → Store → R PV) : Env' → Store → R PV := fun ρ S => (a ρ S).bind fun v S1 => (b ρ S1).bind fun w S2 => R.ofO (op v w S2)
def eUn (op : PV → Store → Option (PV × Store)) (a : Env' → Store → R PV) : Env' → Store → R PV := fun ρ S => (a ρ S).bind fun v S1 => R.ofO (op v S1)
def eNil : Env' → Store → R (List PV) := fun _ S => .ok [] S
def eCons (a : Env' → Store → R PV) (r : Env' → Store → R (List PV)) : Env' → Store → R (List PV) := fun ρ S => (a ρ S).bind fun v S1 => (r ρ S1).bind fun vs S2 => .ok (v :: vs) S2
def eTup (a : Env' → Store → R (List PV)) : Env' → Store → R PV := fun ρ S => (a ρ S).bind fun vs S1 => if vs.length ≤ LINE then .ok (.tup vs) S1 else .bad
def eLst (a : Env' → Store → R (List PV)) : Env' → Store → R PV := fun ρ S => (a ρ S).bind fun vs S1 => if vs.length ≤ LINE then .ok (.loc S1.length) (S1 ++ [.lst vs]) else .bad
def eIf (t : Env' → Store → R Bool) (a b : Env' → Store → R PV) : Env' → Store → R PV := fun ρ S => (t ρ S).bind fun c S1 => if c then a ρ S1 else b ρ S1

/-! ### laying and writing -/
section
variable {g : G} {μ : List Addr} {S : Store} {H : Hp}
theorem tbl_keep {P a : Addr} {o : HO} {ps : Array Value} (e : H P = some (.tbl ps)) (w : Wr H a) : upd H a o P = some (.tbl ps) := by
  rw [upd_ne]
  · exact e
  · intro z; subst z; exact w.2.2.1 _ e
theorem ext_keep {b a : Addr} {o : HO} {p : Heap → Prop} (e : H b = some (.ext p)) (w : Wr H a) : upd H a o b = some (.ext p) := by
  rw [upd_ne]
  · exact e
  · intro z; subst z; exact w.2.2.2 _ e
theorem TabN.upd {p : Addr × Option Str} {a : Addr} {o : HO} (h : TabN H p) (w : Wr H a) : TabN (upd H a o) p := by
  obtain ⟨P, q⟩ := p
  cases q with
  | none =>
    obtain ⟨ps, e, t⟩ := h
    exact ⟨ps, tbl_keep e w, t⟩
  | some q =>
    obtain ⟨ps, e, t, n⟩ := h
    refine ⟨ps, tbl_keep e w, t, fun pos cv hc => ?_⟩
    obtain ⟨c, e1, e2⟩ := n pos cv hc
    exact ⟨c, e1, ext_keep e2 w⟩
theorem Ro.keep {μ' : List Addr} {a b : Addr} {o : HO} {so : SO} (h : Ro g μ H b so) (hp : Pre μ μ') (w : Wr H a) (ne : so.mut = true → b ≠ a) : Ro g μ' (upd H a o) b so := by
  have l : Le g.K H (upd H a o) := .upd w
  cases so with
  | lst xs => obtain ⟨vs, e, r⟩ := h; exact ⟨vs, by rw [upd_ne (ne rfl)]; exact e, r.mono hp l⟩
  | rol xs =>
    obtain ⟨vs, e, r⟩ := h
    refine ⟨vs, ?_, r.mono hp l⟩
    rcases e with ⟨ob, e⟩ | e
    · exact .inl ⟨ob, by rw [upd_ne (fun z => w.2.1 ob _ (z ▸ e))]; exact e⟩
    · exact .inr e
  | dic kvs => obtain ⟨ks, e, r⟩ := h; exact ⟨ks, by rw [upd_ne (ne rfl)]; exact e, r.mono hp l⟩
  | ins c fs => obtain ⟨C, dx, vs, e1, e, r⟩ := h; exact ⟨C, dx, vs, e1, by rw [upd_ne (ne rfl)]; exact e, r.mono hp l⟩
  | lam j => obtain ⟨c, e1, e2⟩ := h; exact ⟨c, ext_keep e1 w, ext_keep e2 w⟩
/-- what may be changed is tracked -/
theorem Ro.there {a : Addr} {so : SO} (h : Ro g μ H a so) (m : so.mut = true) : ∃ o, H a = some o ∧ Wr H a := by
  cases so with
  | lst xs => obtain ⟨vs, e, r⟩ := h; exact ⟨_, e, .lst e⟩
  | rol xs => cases m
  | dic kvs => obtain ⟨vs, e, r⟩ := h; exact ⟨_, e, .dK e⟩
  | ins c fs => obtain ⟨_, _, vs, _, e, r⟩ := h; exact ⟨_, e, .ins e⟩
  | lam _ => cases m
/-- a tuple (or what is no place of the store) laid -/
theorem RS.laid (rs : RS g μ S H) {p : Addr} {o : HO} (h : H p = none) : RS g μ S (upd H p o) :=
  ⟨rs.len, rs.nd, fun l a so e1 e2 => (rs.obj l a so e1 e2).keep .refl (.none h) fun m z => (by
    obtain ⟨u, e, _⟩ := (rs.obj l a so e1 e2).there m
    rw [z, h] at e
    cases e), fun P hP => (rs.tabs P hP).upd (.none h)⟩
/-- a new place -/
theorem RS.push (rs : RS g μ S H) {p : Addr} {o : HO} {so : SO} (h : H p = none) (n : Ro g (μ ++ [p]) (upd H p o) p so) : RS g (μ ++ [p]) (S ++ [so]) (upd H p o) := by
  have rl := rs.laid (o := o) h
  have at1 : ∀ {l : Nat} {a : Addr}, (μ ++ [p])[l]? = some a → l < μ.length ∧ μ[l]? = some a ∨ l = μ.length ∧ a = p := fun {l a} e => by
    by_cases hl : l < μ.length
    · rw [List.getElem?_append_left hl] at e; exact .inl ⟨hl, e⟩
    · have h2 : l < (μ ++ [p]).length := (List.getElem?_eq_some_iff.mp e).1
      rw [List.length_append, List.length_singleton] at h2
      have h3 : l = μ.length := by omega
      subst h3
      rw [List.getElem?_append_right (Nat.le_refl _), Nat.sub_self] at e
      exact .inr ⟨rfl, (Option.some.inj e).symm⟩
  have at2 : ∀ {l : Nat} {o : SO}, l < μ.length → (S ++ [so])[l]? = some o → S[l]? = some o := fun {l o} hl e => by
    rw [List.getElem?_append_left (by rw [← rs.len]; exact hl)] at e; exact e
  have at3 : ∀ {o : SO}, (S ++ [so])[μ.length]? = some o → o = so := fun {o} e => by
    rw [List.getElem?_append_right (by rw [rs.len]; exact Nat.le_refl _), rs.len, Nat.sub_self] at e
    exact (Option.some.inj e).symm
  have old : ∀ {l : Nat} {o : SO}, μ[l]? = some p → S[l]? = some o → o.mut = true → False := fun {l o} e1 e2 m => by
    obtain ⟨u, e, _⟩ := (rs.obj l p o e1 e2).there m
    rw [h] at e; cases e
  refine ⟨by rw [List.length_append, List.length_append, rs.len]; rfl, fun l l' a o o' e1 e2 e3 e4 m m' => ?_, fun l a so' e1 e2 => ?_, rl.tabs⟩
  · rcases at1 e1 with ⟨h1, f1⟩ | ⟨h1, f1⟩ <;> rcases at1 e2 with ⟨h2, f2⟩ | ⟨h2, f2⟩
    · exact rs.nd l l' a o o' f1 f2 (at2 h1 e3) (at2 h2 e4) m m'
    · exact (old (f2 ▸ f1) (at2 h1 e3) m).elim
    · exact (old (f1 ▸ f2) (at2 h2 e4) m').elim
    · exact h1.trans h2.symm
  · rcases at1 e1 with ⟨h1, f1⟩ | ⟨rfl, rfl⟩
    · exact (rs.obj l a so' f1 (at2 h1 e2)).keep ⟨[p], rfl⟩ (.none h) fun m z => old (z ▸ f1) (at2 h1 e2) m
    · rw [at3 e2]; exact n
/-- a place changed -/
theorem RS.put (rs : RS g μ S H) {l : Nat} {p : Addr} {o : HO} {so so0 : SO} (h1 : μ[l]? = some p) (h2 : S[l]? = some so0) (m0 : so0.mut = true) (m : so.mut = true) (n : Ro g μ (upd H p o) p so) : RS g μ (S.set l so) (upd H p o) := by
  obtain ⟨u, hu, w⟩ := (rs.obj l p so0 h1 h2).there m0
  have hl : l < S.length := (List.getElem?_eq_some_iff.mp h2).1
  have back : ∀ {k : Nat} {o' : SO}, (S.set l so)[k]? = some o' → o'.mut = true → ∃ o2, S[k]? = some o2 ∧ o2.mut = true := fun {k o'} e mm => by
    by_cases hk : l = k
    · subst hk; exact ⟨_, h2, m0⟩
    · rw [List.getElem?_set_ne hk] at e; exact ⟨_, e, mm⟩
  refine ⟨by rw [List.length_set]; exact rs.len, fun k k' a o1 o2 e1 e2 e3 e4 m1 m2 => ?_, fun k a so' e1 e2 => ?_, fun P hP => (rs.tabs P hP).upd w⟩
  · obtain ⟨q1, b1, c1⟩ := back e3 m1
    obtain ⟨q2, b2, c2⟩ := back e4 m2
    exact rs.nd k k' a q1 q2 e1 e2 b1 b2 c1 c2
  · by_cases hk : l = k
    · subst hk
      rw [List.getElem?_set_self hl] at e2
      cases e2
      rw [h1] at e1; cases e1
      exact n
    · rw [List.getElem?_set_ne hk] at e2
      exact (rs.obj k a so' e1 e2).keep .refl w fun mm z => hk (rs.nd l k p so0 so' h1 (z ▸ e1) h2 e2 m0 mm)
end
end Ev


/-! Ev: operators by values. -/
namespace Ev
open PySem PySem.Spec PyProof.Rows L2

theorem slen (s : List Nat) : (⟨s.toArray⟩ : Str).length = s.length := by
  show s.toArray.size = s.length
  simp
theorem sapp (a b : List Nat) : ((⟨a.toArray⟩ : Str) ++ ⟨b.toArray⟩) = ⟨(a ++ b).toArray⟩ := by
  show (⟨a.toArray ++ b.toArray⟩ : Str) = _
  rw [List.append_toArray]
theorem scps (a : List Nat) : (⟨a.toArray⟩ : Str).cps.toList = a := by simp
theorem sof (x : Str) : x = ⟨x.cps.toList.toArray⟩ := by cases x; simp

section
variable {g : G} {μ : List Addr} {S : Store} {H : Hp}
theorem RS.lst (rs : RS g μ S H) {l : Nat} {p : Addr} {xs : List PV} (h1 : μ[l]? = some p) (h2 : S[l]? = some (.lst xs)) : ∃ vs, H p = some (.lst vs) ∧ Rps g.K μ H xs vs := rs.obj l p _ h1 h2
theorem RS.dic (rs : RS g μ S H) {l : Nat} {p : Addr} {xs : List (PV × PV)} (h1 : μ[l]? = some p) (h2 : S[l]? = some (.dic xs)) : ∃ vs, H p = some (.dK vs) ∧ Rkv g.K μ H xs vs := rs.obj l p _ h1 h2
theorem RS.here (rs : RS g μ S H) {l : Nat} {o : SO} (h2 : S[l]? = some o) : ∃ p, μ[l]? = some p := by
  have h := (List.getElem?_eq_some_iff.mp h2).1
  rw [← rs.len] at h
  exact ⟨μ[l], List.getElem?_eq_getElem h⟩
theorem Rp.atEnd (rs : RS g μ S H) (p : Addr) (H' : Hp) : Rp g.K (μ ++ [p]) H' (.loc S.length) (.ref p) := .loc (by rw [← rs.len]; simp)
/-- a new list -/
theorem RS.newL (rs : RS g μ S H) {p : Addr} {xs : List PV} {vs : List V} (h : H p = none) (r : Rps g.K μ H xs vs) : RS g (μ ++ [p]) (S ++ [.lst xs]) (upd H p (.lst vs)) :=
  rs.push h ⟨vs, upd_same, r.mono ⟨[p], rfl⟩ (.upd (.none h))⟩
/-- a new tuple -/
theorem Rp.newT {p : Addr} {xs : List PV} {vs : List V} (h : H p = none) (r : Rps g.K μ H xs vs) : Rp g.K μ (upd H p (.tup vs)) (.tup xs) (.ref p) :=
  .tup (.inl (.inl upd_same)) (r.mono .refl (.upd (.none h)))
end

/-- what an operator is to do, by plain values -/
def rV2 (g : G) (f : BOp) : R2 := fun x y H Q => ∃ μ v w S z S', RS g μ S H ∧ Rp g.K μ H v x ∧ Rp g.K μ H w y ∧ f v w S = some (z, S') ∧
  ∀ μ' x' H', Pre μ μ' → Le g.K H H' → RS g μ' S' H' → Rp g.K μ' H' z x' → Q x' H'
def rV1 (g : G) (f : PV → Store → Option (PV × Store)) : V → Hp → VK → Prop := fun x H Q => ∃ μ v S z S', RS g μ S H ∧ Rp g.K μ H v x ∧ f v S = some (z, S') ∧
  ∀ μ' x' H', Pre μ μ' → Le g.K H H' → RS g μ' S' H' → Rp g.K μ' H' z x' → Q x' H'
def rVs (g : G) (f : List PV → Store → Option (PV × Store)) : List V → Hp → VK → Prop := fun xs H Q => ∃ μ vs S z S', RS g μ S H ∧ Rps g.K μ H vs xs ∧ f vs S = some (z, S') ∧
  ∀ μ' x' H', Pre μ μ' → Le g.K H H' → RS g μ' S' H' → Rp g.K μ' H' z x' → Q x' H'

/-! ### + - * // % ** -/
def addP : BOp
  | .int a, .int b, S => some (.int (a + b), S)
  | .str a, .str b, S => if a.length + b.length ≤ LINE then some (.str (a ++ b), S) else none
  | .tup a, .tup b, S => if a.length + b.length ≤ LINE then some (.tup (a ++ b), S) else none
  | .loc l, .loc k, S => match S[l]?, S[k]? with
    | some (.lst a), some (.lst b) => if a.length + b.length ≤ LINE then some (.loc S.length, S ++ [.lst (a ++ b)]) else none
    | _, _ => none
  | _, _, _ => none
def subP : BOp
  | .int a, .int b, S => some (.int (a - b), S)
  | _, _, _ => none
def mulP : BOp
  | .int a, .int b, S => if (-(2 ^ 64) < a ∧ a < 2 ^ 64) ∨ (-(2 ^ 64) < b ∧ b < 2 ^ 64) then some (.int (a * b), S) else none
  | .loc l, .int k, S => match S[l]? with
    | some (.lst a) => if -(2 ^ 63) ≤ k ∧ k < 2 ^ 63 ∧ a.length * k.toNat ≤ LINE then some (.loc S.length, S ++ [.lst (List.replicate k.toNat a).flatten]) else none
    | _ => none
  | .str a, .int k, S => if 2 ≤ k ∧ k < 1048576 ∧ a ≠ [] ∧ a.length * k.toNat ≤ LINE then some (.str (List.replicate k.toNat a).flatten, S) else none
  | _, _, _ => none
def modP : BOp
  | .int a, .int b, S => if 0 < b then some (.int (a % b), S) else none
  | _, _, _ => none
def fdivP : BOp
  | .int a, .int b, S => if 0 < b ∧ b < 1073741824 then some (.int (a / b), S) else none
  | _, _, _ => none
def powP : BOp
  | .int a, .int b, S => if 0 ≤ b ∧ b ≤ 1000000 ∧ a.natAbs < 2 ^ 64 then some (.int (a ^ b.toNat), S) else none
  | _, _, _ => none

section
variable {X : Cx} {g : G}
theorem opAdd (hK : X.K = g.K) : OpR X (binaryOp .Add) (rV2 g addP) := by
  intro pins s σ H x y v u Q I rx ry h
  obtain ⟨μ, a, b, S, z, S', rs, ra, rb, e, k⟩ := h
  unfold addP at e
  split at e
  · cases ra; cases rb; cases e
    exact op_add pins s σ H _ _ v u Q I rx ry ⟨_, _, rfl, rfl, k μ _ H .refl .refl rs (.int _)⟩
  · split at e
    · rename_i hl
      cases ra; cases rb; cases e
      refine op_add_str pins s σ H _ _ v u Q I rx ry ⟨_, _, rfl, rfl, by rw [slen, slen, line_eq]; exact hl, ?_⟩
      rw [sapp]
      exact k μ _ H .refl .refl rs (.str _)
    · cases e
  · split at e
    · rename_i hl
      cases ra with
      | tup h1 r1 =>
        cases rb with
        | tup h2 r2 =>
          cases e
          refine op_catA pins s σ H _ _ v u Q I rx ry ⟨_, _, _, _, rfl, rfl, by rw [hK]; exact h1, by rw [hK]; exact h2, by rw [← r1.length, ← r2.length, line_eq]; exact hl, fun e => ?_, fun _ e => ?_, fun _ _ p hp => ?_⟩
          · refine k μ _ H .refl .refl rs ?_
            have e2 := r1.length
            rw [e] at e2
            rw [List.eq_nil_of_length_eq_zero e2]
            exact .tup h2 r2
          · refine k μ _ H .refl .refl rs ?_
            have e2 := r2.length
            rw [e] at e2
            rw [List.eq_nil_of_length_eq_zero e2, List.append_nil]
            exact .tup h1 r1
          · exact k μ _ _ .refl (.upd (.none hp)) (rs.laid hp) (.newT hp (r1.append r2))
    · cases e
  · split at e
    · split at e
      · rename_i hl
        rename_i e1 e2
        cases ra with
        | loc h1 =>
          cases rb with
          | loc h2 =>
            cases e
            obtain ⟨vs, q1, r1⟩ := rs.lst h1 e1
            obtain ⟨ws, q2, r2⟩ := rs.lst h2 e2
            refine op_cat pins s σ H _ _ v u Q I rx ry ⟨_, _, _, _, rfl, rfl, q1, q2, by rw [← r1.length, ← r2.length, line_eq]; exact hl, fun p hp => ?_⟩
            exact k _ _ _ ⟨[p], rfl⟩ (.upd (.none hp)) (rs.newL hp (r1.append r2)) (Rp.atEnd rs p _)
      · cases e
    · cases e
  · cases e
theorem opSub : OpR X (binaryOp .Sub) (rV2 g subP) := by
  intro pins s σ H x y v u Q I rx ry h
  obtain ⟨μ, a, b, S, z, S', rs, ra, rb, e, k⟩ := h
  unfold subP at e
  split at e
  · cases ra; cases rb; cases e
    exact op_sub pins s σ H _ _ v u Q I rx ry ⟨_, _, rfl, rfl, k μ _ H .refl .refl rs (.int _)⟩
  · cases e
theorem Rps.rep {K : PySem.W.Frag} {μ : List Addr} {H : Hp} {xs : List PV} {vs : List V} (h : Rps K μ H xs vs) : ∀ k : Nat, Rps K μ H (List.replicate k xs).flatten (List.replicate k vs).flatten
  | 0 => .nil
  | k + 1 => by
    rw [List.replicate_succ, List.replicate_succ, List.flatten_cons, List.flatten_cons]
    exact h.append (Rps.rep h k)
theorem opMul : OpR X (binaryOp .Mult) (rV2 g mulP) := by
  intro pins s σ H x y v u Q I rx ry h
  obtain ⟨μ, a, b, S, z, S', rs, ra, rb, e, k⟩ := h
  unfold mulP at e
  split at e
  · split at e
    · rename_i hc
      cases ra; cases rb; cases e
      exact op_mul pins s σ H _ _ v u Q I rx ry ⟨_, _, rfl, rfl, hc, k μ _ H .refl .refl rs (.int _)⟩
    · cases e
  · split at e
    · split at e
      · rename_i e1 hc
        cases ra with
        | loc h1 =>
          cases rb
          cases e
          obtain ⟨vs, q1, r1⟩ := rs.lst h1 e1
          refine op_rep pins s σ H _ _ v u Q I rx ry ⟨_, _, _, rfl, rfl, q1, hc.1, hc.2.1, by rw [← r1.length, line_eq]; exact hc.2.2, fun p hp => ?_⟩
          exact k _ _ _ ⟨[p], rfl⟩ (.upd (.none hp)) (rs.newL hp (r1.rep _)) (Rp.atEnd rs p _)
      · cases e
    · cases e
  · split at e
    · rename_i a n hc
      obtain ⟨h1, h2, h3, h4⟩ := hc
      cases ra; cases rb; cases e
      obtain ⟨t, rfl⟩ := rx
      obtain ⟨t', rfl⟩ := ry
      have hl : (⟨a.toArray⟩ : Str).length = a.length := slen a
      have ha : a.length ≠ 0 := fun z => h3 (List.length_eq_zero_iff.mp z)
      have hlen : (List.replicate n.toNat a).flatten.length = a.length * n.toNat := by
        simp [List.length_flatten, List.map_replicate, List.sum_replicate_nat, Nat.mul_comm]
      have hf : ∀ (m : Nat) (acc : List Nat), (List.replicate m a.toArray).foldl (· ++ ·) acc.toArray = (acc ++ (List.replicate m a).flatten).toArray := by
        intro m
        induction m with
        | zero => intro acc; simp
        | succ m ih =>
          intro acc
          rw [List.replicate_succ, List.foldl_cons, List.replicate_succ, List.flatten_cons]
          have : acc.toArray ++ a.toArray = (acc ++ a).toArray := by simp
          rw [this, ih, List.append_assoc]
      have hf0 := hf n.toNat []
      simp only [List.nil_append] at hf0
      have e0 : ¬ n < 1 := by omega
      have e1 : (n == 1 || (⟨a.toArray⟩ : Str).length == 0) = false := by
        rw [hl]
        simp only [Bool.or_eq_false_iff, beq_eq_false_iff_ne]
        exact ⟨by omega, ha⟩
      refine PySem.P.mul_str (by
        have q1 : ¬ n < -(2 ^ 63 : Int) := by omega
        have q2 : ¬ n ≥ 2 ^ 63 := by omega
        rw [decide_eq_false q1, decide_eq_false q2]; rfl) (fun _ _ => ?_) (fun _ _ => ?_) ?_
      · rw [hl]
        have q3 : (16777216 : Int) ≤ 9223372036854775807 / n := by
          rw [Int.le_ediv_iff_mul_le (by omega)]
          omega
        have q3 : (16777216 : Int) ≤ (2 ^ 63 - 1) / n := q3
        have q4 : a.length ≤ LINE := Nat.le_trans (Nat.le_mul_of_pos_right _ (Int.lt_toNat.mpr (Int.lt_of_lt_of_le (by decide) h1))) h4
        have q5 : (a.length : Int) ≤ 16777216 := Int.ofNat_le.mpr q4
        exact Int.not_lt.mpr (Int.le_trans q5 q3)
      · rw [hl]
        exact decide_eq_false (by rw [line_eq]; exact Nat.not_lt.mpr h4)
      · rw [if_neg e0, if_neg (by rw [e1]; exact Bool.false_ne_true)]
        have e9 : (⟨(List.replicate n.toNat (⟨a.toArray⟩ : Str).cps).foldl (· ++ ·) #[]⟩ : Str) = ⟨(List.replicate n.toNat a).flatten.toArray⟩ := congrArg Str.mk hf0
        rw [e9]
        exact ⟨by rw [slen, hlen, line_eq]; exact h4, .str ⟨(List.replicate n.toNat a).flatten.toArray⟩, H, I.tok _, ⟨_, rfl⟩, k μ _ H .refl .refl rs (.str _)⟩
    · cases e
  · cases e
theorem opMod : OpR X (binaryOp .Mod) (rV2 g modP) := by
  intro pins s σ H x y v u Q I rx ry h
  obtain ⟨μ, a, b, S, z, S', rs, ra, rb, e, k⟩ := h
  unfold modP at e
  split at e
  · split at e
    · rename_i hc
      cases ra; cases rb; cases e
      exact op_mod pins s σ H _ _ v u Q I rx ry ⟨_, _, rfl, rfl, hc, k μ _ H .refl .refl rs (.int _)⟩
    · cases e
  · cases e
theorem opFdiv : OpR X (binaryOp .FloorDiv) (rV2 g fdivP) := by
  intro pins s σ H x y v u Q I rx ry h
  obtain ⟨μ, a, b, S, z, S', rs, ra, rb, e, k⟩ := h
  unfold fdivP at e
  split at e
  · split at e
    · rename_i hc
      cases ra; cases rb; cases e
      exact op_fdiv pins s σ H _ _ v u Q I rx ry ⟨_, _, rfl, rfl, hc, k μ _ H .refl .refl rs (.int _)⟩
    · cases e
  · cases e
theorem opPow : OpR X (binaryOp .Pow) (rV2 g powP) := by
  intro pins s σ H x y v u Q I rx ry h
  obtain ⟨μ, a, b, S, z, S', rs, ra, rb, e, k⟩ := h
  unfold powP at e
  split at e
  · split at e
    · rename_i hc
      cases ra; cases rb; cases e
      exact op_pow pins s σ H _ _ v u Q I rx ry ⟨_, _, rfl, rfl, hc, k μ _ H .refl .refl rs (.int _)⟩
    · cases e
  · cases e
end

/-! ### comparisons -/
def cmpI (p : Int → Int → Bool) : BOp
  | .int a, .int b, S => some (.bl (p a b), S)
  | _, _, _ => none
def ltP : BOp := cmpI fun i j => decide (i < j)
def leP : BOp := cmpI fun i j => decide (i ≤ j)
def gtP : BOp := cmpI fun i j => decide (j < i)
def geP : BOp := cmpI fun i j => decide (j ≤ i)
def okS (s : List Nat) : Bool := s.all (· < 0x110000)
/-- the data that a value is; n bounds its depth -/
def mapD (f : PV → Option PyData) : List PV → Option (List PyData)
  | [] => some []
  | x :: xs => match f x, mapD f xs with
    | some d, some ds => some (d :: ds)
    | _, _ => none
def toD (S : Store) : Nat → PV → Option PyData
  | _, .non => some .none
  | _, .bl b => some (.bool b)
  | _, .int i => some (.int i)
  | _, .str s => if okS s then some (.str ⟨s.toArray⟩) else none
  | 0, .tup _ => none
  | n + 1, .tup xs => (mapD (toD S n) xs).map .tuple
  | 0, .loc _ => none
  | n + 1, .loc l => match S[l]? with
    | some (.lst xs) => (mapD (toD S n) xs).map .list
    | some (.rol xs) => (mapD (toD S n) xs).map .list
    | _ => none
def eqP : BOp := fun v w S => match toD S 64 v, toD S 64 w with
  | some d, some e => some (.bl (PyData.eqv d e), S)
  | _, _ => none
def neP : BOp := fun v w S => match toD S 64 v, toD S 64 w with
  | some d, some e => some (.bl (!PyData.eqv d e), S)
  | _, _ => none

theorem depthAll_le {n : Nat} : ∀ {ds : List PyData}, (∀ d ∈ ds, d.depth ≤ n) → PyData.depthAll ds ≤ n
  | [], _ => Nat.zero_le _
  | d :: ds, h => by
    rw [PyData.depthAll]
    exact Nat.max_le.mpr ⟨h d (by simp), depthAll_le fun d' h' => h d' (by simp [h'])⟩
theorem canLayAll_of {ds : List PyData} (h : ∀ d ∈ ds, d.canLay0 = true) : PyData.canLayAll0 ds = true := by
  induction ds with
  | nil => rfl
  | cons d ds ih =>
    rw [PyData.canLayAll0, h d (by simp), ih fun d' h' => h d' (by simp [h'])]; rfl
section
variable {g : G} {μ : List Addr} {S : Store} {H : Hp}
theorem mapD_ok {f : PV → Option PyData} {n : Nat} (ih : ∀ v x d, Rp g.K μ H v x → f v = some d → Dp g.K H x d ∧ d.canLay0 = true ∧ d.depth ≤ n) :
    ∀ {xs : List PV} {vs : List V} {ds : List PyData}, Rps g.K μ H xs vs → mapD f xs = some ds → DpAll g.K H vs ds ∧ (∀ d ∈ ds, d.canLay0 = true) ∧ ∀ d ∈ ds, d.depth ≤ n
  | _, _, _, .nil, e => by cases e; exact ⟨.nil, fun _ h => (nomatch h), fun _ h => (nomatch h)⟩
  | _, _, _, .cons h r, e => by
    unfold mapD at e
    split at e
    · rename_i d ds e1 e2
      cases e
      obtain ⟨a1, a2, a3⟩ := ih _ _ _ h e1
      obtain ⟨b1, b2, b3⟩ := mapD_ok ih r e2
      refine ⟨.cons a1 b1, fun d hd => ?_, fun d hd => ?_⟩
      · rcases List.mem_cons.mp hd with rfl | hd
        · exact a2
        · exact b2 d hd
      · rcases List.mem_cons.mp hd with rfl | hd
        · exact a3
        · exact b3 d hd
    · cases e
theorem toD_ok (rs : RS g μ S H) : ∀ (n : Nat) (v : PV) (x : V) (d : PyData), Rp g.K μ H v x → toD S n v = some d → Dp g.K H x d ∧ d.canLay0 = true ∧ d.depth ≤ n := by
  intro n
  induction n with
  | zero =>
    intro v x d r e
    cases r with
    | non => cases e; exact ⟨.non, rfl, Nat.zero_le _⟩
    | bl b => cases e; exact ⟨.bl _, rfl, Nat.zero_le _⟩
    | int i => cases e; exact ⟨.int _, rfl, Nat.zero_le _⟩
    | str s =>
      unfold toD at e
      split at e
      · rename_i hs
        cases e
        refine ⟨.str _, ?_, Nat.zero_le _⟩
        rw [PyData.canLay0]
        show s.toArray.all _ = true
        rw [List.all_toArray]; exact hs
      · cases e
    | tup h r => cases e
    | loc h => cases e
  | succ n ih =>
    intro v x d r e
    cases r with
    | non => cases e; exact ⟨.non, rfl, Nat.zero_le _⟩
    | bl b => cases e; exact ⟨.bl _, rfl, Nat.zero_le _⟩
    | int i => cases e; exact ⟨.int _, rfl, Nat.zero_le _⟩
    | str s =>
      unfold toD at e
      split at e
      · rename_i hs
        cases e
        refine ⟨.str _, ?_, Nat.zero_le _⟩
        rw [PyData.canLay0]
        show s.toArray.all _ = true
        rw [List.all_toArray]; exact hs
      · cases e
    | tup h r =>
      unfold toD at e
      obtain ⟨ds, e1, rfl⟩ := Option.map_eq_some_iff.mp e
      obtain ⟨a1, a2, a3⟩ := mapD_ok ih r e1
      exact ⟨.tup h a1, by rw [PyData.canLay0]; exact canLayAll_of a2, by rw [PyData.depth]; exact Nat.succ_le_succ (depthAll_le a3)⟩
    | @loc a l h =>
      unfold toD at e
      split at e
      · rename_i xs e1
        obtain ⟨ds, e2, rfl⟩ := Option.map_eq_some_iff.mp e
        obtain ⟨vs, q1, r1⟩ := rs.lst h e1
        obtain ⟨a1, a2, a3⟩ := mapD_ok ih r1 e2
        exact ⟨.lst (.inl (.inl q1)) a1, by rw [PyData.canLay0]; exact canLayAll_of a2, by rw [PyData.depth]; exact Nat.succ_le_succ (depthAll_le a3)⟩
      · rename_i xs e1
        obtain ⟨ds, e2, rfl⟩ := Option.map_eq_some_iff.mp e
        obtain ⟨vs, q1, r1⟩ := rs.obj _ _ _ h e1
        obtain ⟨a1, a2, a3⟩ := mapD_ok ih r1 e2
        exact ⟨.lst q1.sq a1, by rw [PyData.canLay0]; exact canLayAll_of a2, by rw [PyData.depth]; exact Nat.succ_le_succ (depthAll_le a3)⟩
      · cases e
end
section
variable {X : Cx} {g : G}
theorem opLt : OpR X (compareOp .Lt) (rV2 g ltP) := by
  intro pins s σ H x y v u Q I rx ry h
  obtain ⟨μ, a, b, S, z, S', rs, ra, rb, e, k⟩ := h
  unfold ltP cmpI at e
  split at e
  · cases ra; cases rb; cases e
    exact op_lt pins s σ H _ _ v u Q I rx ry ⟨_, _, rfl, rfl, k μ _ H .refl .refl rs (.bl _)⟩
  · cases e
theorem opLe : OpR X (compareOp .LtE) (rV2 g leP) := by
  intro pins s σ H x y v u Q I rx ry h
  obtain ⟨μ, a, b, S, z, S', rs, ra, rb, e, k⟩ := h
  unfold leP cmpI at e
  split at e
  · cases ra; cases rb; cases e
    exact op_le pins s σ H _ _ v u Q I rx ry ⟨_, _, rfl, rfl, k μ _ H .refl .refl rs (.bl _)⟩
  · cases e
theorem opGt : OpR X (compareOp .Gt) (rV2 g gtP) := by
  intro pins s σ H x y v u Q I rx ry h
  obtain ⟨μ, a, b, S, z, S', rs, ra, rb, e, k⟩ := h
  unfold gtP cmpI at e
  split at e
  · cases ra; cases rb; cases e
    exact op_gt pins s σ H _ _ v u Q I rx ry ⟨_, _, rfl, rfl, k μ _ H .refl .refl rs (.bl _)⟩
  · cases e
theorem opGe : OpR X (compareOp .GtE) (rV2 g geP) := by
  intro pins s σ H x y v u Q I rx ry h
  obtain ⟨μ, a, b, S, z, S', rs, ra, rb, e, k⟩ := h
  unfold geP cmpI at e
  split at e
  · cases ra; cases rb; cases e
    exact op_ge pins s σ H _ _ v u Q I rx ry ⟨_, _, rfl, rfl, k μ _ H .refl .refl rs (.bl _)⟩
  · cases e
theorem opEq (hK : X.K = g.K) (hu : X.A.units + 64 < cLine) : OpR X (compareOp .Eq) (rV2 g eqP) := by
  intro pins s σ H x y v u Q I rx ry h
  obtain ⟨μ, a, b, S, z, S', rs, ra, rb, e, k⟩ := h
  unfold eqP at e
  split at e
  · rename_i d1 d2 e1 e2
    cases e
    obtain ⟨a1, a2, a3⟩ := toD_ok rs 64 a x d1 ra e1
    obtain ⟨b1, b2, b3⟩ := toD_ok rs 64 b y d2 rb e2
    rw [← hK] at a1 b1
    have sh : ∀ {d : PyData}, d.canLay0 = true → d.depth ≤ 64 → SeqAt.shaped d = true := fun {d} h1 h2 => by
      unfold SeqAt.shaped; rw [h1, decide_eq_true h2]; rfl
    exact op_eqD hu pins s σ H x y v u Q I rx ry ⟨d1, d2, a1, b1, sh a2 a3, sh b2 b3, k μ _ H .refl .refl rs (.bl _)⟩
  · cases e
theorem opNe (hK : X.K = g.K) (hu : X.A.units + 64 < cLine) : OpR X (compareOp .NotEq) (rV2 g neP) := by
  intro pins s σ H x y v u Q I rx ry h
  obtain ⟨μ, a, b, S, z, S', rs, ra, rb, e, k⟩ := h
  unfold neP at e
  split at e
  · rename_i d1 d2 e1 e2
    cases e
    obtain ⟨a1, a2, a3⟩ := toD_ok rs 64 a x d1 ra e1
    obtain ⟨b1, b2, b3⟩ := toD_ok rs 64 b y d2 rb e2
    rw [← hK] at a1 b1
    have sh : ∀ {d : PyData}, d.canLay0 = true → d.depth ≤ 64 → SeqAt.shaped d = true := fun {d} h1 h2 => by
      unfold SeqAt.shaped; rw [h1, decide_eq_true h2]; rfl
    exact op_neD hu pins s σ H x y v u Q I rx ry ⟨d1, d2, a1, b1, sh a2 a3, sh b2 b3, k μ _ H .refl .refl rs (.bl _)⟩
  · cases e
end

/-! ### is None, in -/
def isNP : BOp := fun v w S => match w with
  | .non => some (.bl (match v with | .non => true | _ => false), S)
  | _ => none
def notNP : BOp := fun v w S => match w with
  | .non => some (.bl (match v with | .non => false | _ => true), S)
  | _ => none
def flatP : PV → Bool
  | .tup _ => false
  | .loc _ => false
  | _ => true
def eqF : PV → PV → Bool
  | .non, .non => true
  | .bl a, .bl b => a == b
  | .int a, .int b => a == b
  | .bl a, .int j => (if a then 1 else 0) == j
  | .int j, .bl a => j == (if a then 1 else 0)
  | .str a, .str b => a == b
  | _, _ => false
def inF (x : PV) (xs : List PV) : Bool := xs.any fun y => eqF y x
def inP (neg : Bool) : BOp := fun v w S => match w with
  | .str t => match v with
    | .str [c] => some (.bl (if neg then !decide (c ∈ t) else decide (c ∈ t)), S)
    | _ => none
  | .tup xs => if flatP v && xs.all flatP then some (.bl (if neg then !inF v xs else inF v xs), S) else none
  | .loc l => match S[l]? with
    | some (.lst xs) => if flatP v && xs.all flatP then some (.bl (if neg then !inF v xs else inF v xs), S) else none
    | _ => none
  | _ => none
section
variable {X : Cx} {g : G} {μ : List Addr} {S : Store} {H : Hp}
theorem flat_of {v : PV} {x : V} (r : Rp g.K μ H v x) (f : flatP v = true) : flatV x = true := by
  cases r <;> first | rfl | cases f
theorem eqF_of {v w : PV} {x y : V} (r : Rp g.K μ H v x) (r2 : Rp g.K μ H w y) (f : flatP v = true) (f2 : flatP w = true) : eqV x y = eqF v w := by
  cases r <;> cases r2 <;> first | rfl | cases f | cases f2 | skip
  rename_i a b
  show decide ((⟨a.toArray⟩ : Str) = ⟨b.toArray⟩) = (a == b)
  by_cases e : a = b
  · subst e; simp
  · have : ¬ (⟨a.toArray⟩ : Str) = ⟨b.toArray⟩ := fun z => e (by have := congrArg (fun s : Str => s.cps.toList) z; simpa using this)
    rw [decide_eq_false this]; simp [e]
theorem flats_of : ∀ {xs : List PV} {vs : List V}, Rps g.K μ H xs vs → xs.all flatP = true → vs.all flatV = true
  | _, _, .nil, _ => rfl
  | _, _, .cons h r, f => by
    rw [List.all_cons, Bool.and_eq_true] at f ⊢
    exact ⟨flat_of h f.1, flats_of r f.2⟩
theorem inF_of {v : PV} {x : V} (r : Rp g.K μ H v x) (f : flatP v = true) : ∀ {xs : List PV} {vs : List V}, Rps g.K μ H xs vs → xs.all flatP = true → inV x vs = inF v xs
  | _, _, .nil, _ => rfl
  | _, _, .cons h rr, ff => by
    rw [List.all_cons, Bool.and_eq_true] at ff
    have ih := inF_of r f rr ff.2
    unfold inV inF at ih ⊢
    rw [List.any_cons, List.any_cons, ih, eqF_of h r ff.1 f]
theorem opIsN : OpR X (compareOp .Is) (rV2 g isNP) := by
  intro pins s σ H x y v u Q I rx ry h
  obtain ⟨μ, a, b, S, z, S', rs, ra, rb, e, k⟩ := h
  unfold isNP at e
  split at e
  · cases rb; cases e
    refine op_isN pins s σ H _ _ v u Q I rx ry ⟨rfl, ?_⟩
    refine k μ _ H .refl .refl rs ?_
    cases ra <;> exact .bl _
  · cases e
theorem opNotN : OpR X (compareOp .IsNot) (rV2 g notNP) := by
  intro pins s σ H x y v u Q I rx ry h
  obtain ⟨μ, a, b, S, z, S', rs, ra, rb, e, k⟩ := h
  unfold notNP at e
  split at e
  · cases rb; cases e
    refine op_notN pins s σ H _ _ v u Q I rx ry ⟨rfl, ?_⟩
    refine k μ _ H .refl .refl rs ?_
    cases ra <;> exact .bl _
  · cases e
theorem opIn (hK : X.K = g.K) : OpR X (compareOp .In) (rV2 g (inP false)) := by
  intro pins s σ H x y v u Q I rx ry h
  obtain ⟨μ, a, b, S, z, S', rs, ra, rb, e, k⟩ := h
  unfold inP at e
  split at e
  · split at e
    · cases rb; cases ra; cases e
      refine op_in_sign pins s σ H _ _ v u Q I rx ry ⟨_, _, rfl, rfl, ?_⟩
      rw [scps]
      exact k μ _ H .refl .refl rs (.bl _)
    · cases e
  · split at e
    · rename_i hf
      rw [Bool.and_eq_true] at hf
      cases rb with
      | tup h1 r1 =>
        cases e
        refine op_in_seq pins s σ H _ _ v u Q I rx ry ⟨_, _, rfl, .inr (by rw [hK]; exact h1), flat_of ra hf.1, flats_of r1 hf.2, ?_⟩
        refine k μ _ H .refl .refl rs ?_
        rw [inF_of ra hf.1 r1 hf.2]
        exact .bl _
    · cases e
  · split at e
    · split at e
      · rename_i e1 hf
        rw [Bool.and_eq_true] at hf
        cases rb with
        | loc h1 =>
          cases e
          obtain ⟨vs, q1, r1⟩ := rs.lst h1 e1
          refine op_in_seq pins s σ H _ _ v u Q I rx ry ⟨_, _, rfl, .inl (.inl (.inl q1)), flat_of ra hf.1, flats_of r1 hf.2, ?_⟩
          refine k μ _ H .refl .refl rs ?_
          rw [inF_of ra hf.1 r1 hf.2]
          exact .bl _
      · cases e
    · cases e
  · cases e
theorem opNotIn (hK : X.K = g.K) : OpR X (compareOp .NotIn) (rV2 g (inP true)) := by
  intro pins s σ H x y v u Q I rx ry h
  obtain ⟨μ, a, b, S, z, S', rs, ra, rb, e, k⟩ := h
  unfold inP at e
  split at e
  · split at e
    · cases rb; cases ra; cases e
      refine op_notIn_sign pins s σ H _ _ v u Q I rx ry ⟨_, _, rfl, rfl, ?_⟩
      rw [scps]
      exact k μ _ H .refl .refl rs (.bl _)
    · cases e
  · split at e
    · rename_i hf
      rw [Bool.and_eq_true] at hf
      cases rb with
      | tup h1 r1 =>
        cases e
        refine op_notIn_seq pins s σ H _ _ v u Q I rx ry ⟨_, _, rfl, .inr (by rw [hK]; exact h1), flat_of ra hf.1, flats_of r1 hf.2, ?_⟩
        refine k μ _ H .refl .refl rs ?_
        rw [inF_of ra hf.1 r1 hf.2]
        exact .bl _
    · cases e
  · split at e
    · split at e
      · rename_i e1 hf
        rw [Bool.and_eq_true] at hf
        cases rb with
        | loc h1 =>
          cases e
          obtain ⟨vs, q1, r1⟩ := rs.lst h1 e1
          refine op_notIn_seq pins s σ H _ _ v u Q I rx ry ⟨_, _, rfl, .inl (.inl (.inl q1)), flat_of ra hf.1, flats_of r1 hf.2, ?_⟩
          refine k μ _ H .refl .refl rs ?_
          rw [inF_of ra hf.1 r1 hf.2]
          exact .bl _
      · cases e
    · cases e
  · cases e
end
end Ev


/-! Ev: expressions. -/
namespace Ev
open PySem PySem.Spec PyProof.Rows L2

section
variable {X : Cx} {g : G} {W : WX} {pos : Pos}
theorem se_var {i : Nat} {x : Str} (hN : X.N[i]? = some x) (hv : Vis X.env.scope x) (hd : (x == ("__debug__" : Str)) = false := by decide) (hcd : (x == ("__classdict__" : Str)) = false := by decide) : SE X g W (.Name x pos) (eVar i) :=
  PEimp (pe_var hN hv hd hcd) fun σ H Q ⟨μ, ρ, S, re, rs, p⟩ => by
    unfold eVar at p
    split at p
    · rename_i v e
      obtain ⟨y, e2, r⟩ := re.at_ i v e
      exact ⟨y, e2, Post.here p rs r⟩
    · exact p.elim
theorem tC_of {v : PV} {y : V} (r : ∀ μ H, Rp g.K μ H v y) : ∀ σ H Q, tEv g W (eC v) σ H Q → tC y σ H Q := fun σ H Q ⟨μ, ρ, S, re, rs, p⟩ => Post.here p rs (r μ H)
theorem se_int {i : Int} {j : Nat} : SE X g W (.Constant (.int i) j pos) (eC (.int i)) := PEimp pe_int (tC_of fun _ _ => .int i)
theorem se_bl {b : Bool} {j : Nat} : SE X g W (.Constant (.bool b) j pos) (eC (.bl b)) := PEimp pe_bl (tC_of fun _ _ => .bl b)
theorem se_non {j : Nat} : SE X g W (.Constant .none j pos) (eC .non) := PEimp pe_non (tC_of fun _ _ => .non)
theorem se_str {x : Str} {j : Nat} (l : List Nat) (h : x = ⟨l.toArray⟩ := by decide +kernel) : SE X g W (.Constant (.str x) j pos) (eC (.str l)) := by
  subst h; exact PEimp pe_str (tC_of fun _ _ => .str l)
/-- a module's constant: an int, a text -/
theorem se_globI {x : Str} {i : Int} (hg : Gl X x) (hm : ∃ t, X.mg x = some (.int i t)) (hd : (x == ("__debug__" : Str)) = false := by decide) : SE X g W (.Name x pos) (eC (.int i)) := by
  obtain ⟨t, hm⟩ := hm
  exact PEimp (pe_glob (v := .int i) hg hm ⟨t, rfl⟩ hd) (tC_of fun _ _ => .int i)
theorem se_globS {x : Str} {l : List Nat} (hg : Gl X x) (hm : ∃ t, X.mg x = some (.str ⟨l.toArray⟩ t)) (hd : (x == ("__debug__" : Str)) = false := by decide) : SE X g W (.Name x pos) (eC (.str l)) := by
  obtain ⟨t, hm⟩ := hm
  exact PEimp (pe_glob (v := .str ⟨l.toArray⟩) hg hm ⟨t, rfl⟩ hd) (tC_of fun _ _ => .str l)

variable {a b c : Expr} {fa fb fc : Env' → Store → R PV} {es : List Expr} {fs : Env' → Store → R (List PV)}
/-- two behind one another: the start of a rule for a two-place operator -/
theorem two {k : PV → PV → Store → R PV} {σ : St} {H : Hp} {Q : VK} {r : V → V → Hp → Prop} (h : tEv g W (fun ρ S => (fa ρ S).bind fun v S1 => (fb ρ S1).bind fun w S2 => k v w S2) σ H Q)
    (hr : ∀ μ v w S x y H2, RS g μ S H2 → Rp g.K μ H2 v x → Rp g.K μ H2 w y → PostE g W σ μ H2 (k v w S) Q → r x y H2) :
    tEv g W fa σ H fun x H1 => tEv g W fb σ H1 fun y H2 => r x y H2 := by
  obtain ⟨μ, ρ, S, re, rs, p⟩ := h
  refine ⟨μ, ρ, S, re, rs, (Post.bind p).imp fun x H1 ⟨μ1, v, S1, p1, l1, rs1, rv, q⟩ => ?_⟩
  refine ⟨μ1, ρ, S1, re.mono p1 l1, rs1, (Post.bind q).imp fun y H2 ⟨μ2, w, S2, p2, l2, rs2, rw', q2⟩ => ?_⟩
  exact hr μ2 v w S2 x y H2 rs2 (rv.mono p2 l2) rw' q2
theorem one {k : PV → Store → R PV} {σ : St} {H : Hp} {Q : VK} {r : V → Hp → Prop} (h : tEv g W (fun ρ S => (fa ρ S).bind fun v S1 => k v S1) σ H Q)
    (hr : ∀ μ v S x H2, RS g μ S H2 → Rp g.K μ H2 v x → PostE g W σ μ H2 (k v S) Q → r x H2) : tEv g W fa σ H fun x H1 => r x H1 := by
  obtain ⟨μ, ρ, S, re, rs, p⟩ := h
  exact ⟨μ, ρ, S, re, rs, (Post.bind p).imp fun x H1 ⟨μ1, v, S1, p1, l1, rs1, rv, q⟩ => hr μ1 v S1 x H1 rs1 rv q⟩
theorem rV2_of {f : BOp} {σ : St} {μ : List Addr} {H : Hp} {v w : PV} {x y : V} {S : Store} {Q : VK} (rs : RS g μ S H) (rv : Rp g.K μ H v x) (rw' : Rp g.K μ H w y) (q : PostE g W σ μ H (R.ofO (f v w S)) Q) : rV2 g f x y H Q := by
  obtain ⟨z, S', e, k⟩ := Post.ofO q
  exact ⟨μ, v, w, S, z, S', rs, rv, rw', e, k⟩
theorem se_bin {op : Operator} {f : BOp} (ho : OpR X (binaryOp op) (rV2 g f)) (ha : SE X g W a fa) (hb : SE X g W b fb) : SE X g W (.BinOp a op b pos) (eBin f fa fb) :=
  PEimp (pe_op ho ha hb) fun σ H Q h => two h fun μ v w S x y H2 rs rv rw' q => rV2_of rs rv rw' q
/-- a comparison -/
theorem se_cmp {op : CmpOp} {f : BOp} (ho : OpR X (compareOp op) (rV2 g f)) (ha : SE X g W a fa) (hb : SE X g W b fb) (hm : behindInMarks op b = false := by first | exact nomark _ | rfl) : SE X g W (.Compare a [op] [b] pos) (eBin f fa fb) :=
  PEimp (pe_cmpR ho ha hb hm) fun σ H Q h => two h fun μ v w S x y H2 rs rv rw' q => rV2_of rs rv rw' q
theorem se_neg {i : Int} {j : Nat} {p2 : Pos} : SE X g W (.UnaryOp .USub (.Constant (.int i) j p2) pos) (eC (.int (-i))) :=
  PEimp (pe_un un_neg pe_int) fun σ H Q ⟨μ, ρ, S, re, rs, p⟩ => ⟨i, rfl, Post.here p rs (.int _)⟩

/-! ### tests -/
def truP : PV → Store → Option Bool
  | .non, _ => some false
  | .bl b, _ => some b
  | .int i, _ => some (i != 0)
  | .str s, _ => if s.length ≤ LINE then some (!s.isEmpty) else none
  | .tup xs, _ => some (!xs.isEmpty)
  | .loc l, S => match S[l]? with
    | some (.lst xs) => some (!xs.isEmpty)
    | some (.rol xs) => some (!xs.isEmpty)
    | some (.dic xs) => some (!xs.isEmpty)
    | _ => none
def bTru (f : Env' → Store → R PV) : Env' → Store → R Bool := fun ρ S => (f ρ S).bind fun v S1 => match truP v S1 with
  | some b => .ok b S1
  | none => .bad
def bCmp (op : BOp) (a b : Env' → Store → R PV) : Env' → Store → R Bool := fun ρ S => (a ρ S).bind fun v S1 => (b ρ S1).bind fun w S2 => match op v w S2 with
  | some (.bl c, S3) => .ok c S3
  | _ => .bad
def bAnd (a b : Env' → Store → R Bool) : Env' → Store → R Bool := fun ρ S => (a ρ S).bind fun c S1 => if c then b ρ S1 else .ok false S1
def bOr (a b : Env' → Store → R Bool) : Env' → Store → R Bool := fun ρ S => (a ρ S).bind fun c S1 => if c then .ok true S1 else b ρ S1
def bNot (a : Env' → Store → R Bool) : Env' → Store → R Bool := fun ρ S => (a ρ S).bind fun c S1 => .ok (!c) S1
theorem isE (s : List Nat) : (((⟨s.toArray⟩ : Str).length : Int) != 0) = !s.isEmpty := by
  rw [slen]
  cases s with
  | nil => rfl
  | cons c s => simp; omega
theorem Rps.isE {K : PySem.W.Frag} {μ : List Addr} {H : Hp} {xs : List PV} {vs : List V} (r : Rps K μ H xs vs) : vs.isEmpty = xs.isEmpty := by cases r <;> rfl
theorem Rkv.isE {K : PySem.W.Frag} {μ : List Addr} {H : Hp} {xs : List (PV × PV)} {vs : List (Key × V)} (r : Rkv K μ H xs vs) : vs.isEmpty = xs.isEmpty := by cases r <;> rfl
theorem truV {μ : List Addr} {S : Store} {H : Hp} {v : PV} {x : V} {k : Bool} (rs : RS g μ S H) (r : Rp g.K μ H v x) (e : truP v S = some k) : TruV g.K x H k := by
  cases r with
  | non => cases e; rfl
  | bl b => cases e; rfl
  | int i => cases e; rfl
  | str s =>
    simp only [truP] at e
    split at e
    · rename_i hl
      cases e
      exact ⟨by rw [slen, line_eq]; exact hl, (isE s).symm⟩
    · cases e
  | tup h r => cases e; exact .inr (.inl ⟨_, h, by rw [r.isE]⟩)
  | loc h =>
    simp only [truP] at e
    split at e
    · rename_i e1
      cases e
      obtain ⟨vs, q, r⟩ := rs.lst h e1
      exact .inl ⟨vs, .inl (.inl q), by rw [r.isE]⟩
    · rename_i e1
      cases e
      obtain ⟨vs, q, r⟩ := rs.obj _ _ _ h e1
      exact .inl ⟨vs, q.sq, by rw [r.isE]⟩
    · rename_i e1
      cases e
      obtain ⟨vs, q, r⟩ := rs.dic h e1
      exact .inr (.inr ⟨vs, q, by rw [r.isE]⟩)
    · cases e
variable {ta tb : Env' → Store → R Bool} {rest : List Expr}
theorem bOne {fa : Env' → Store → R PV} {k : PV → Store → R Bool} {σ : St} {H : Hp} {Q : Bool → Hp → Prop} {r : V → Hp → Prop} (h : tEvB g W (fun ρ S => (fa ρ S).bind fun v S1 => k v S1) σ H Q)
    (hr : ∀ μ v S x H2, RS g μ S H2 → Rp g.K μ H2 v x → PostB g W σ μ H2 (k v S) Q → r x H2) : tEv g W fa σ H fun x H1 => r x H1 := by
  obtain ⟨μ, ρ, S, re, rs, p⟩ := h
  exact ⟨μ, ρ, S, re, rs, (Post.bind p).imp fun x H1 ⟨μ1, v, S1, p1, l1, rs1, rv, q⟩ => hr μ1 v S1 x H1 rs1 rv q⟩
theorem st_tru (hK : X.K = g.K) (ha : SE X g W a fa) (he : ∀ whole, isTrue a X.env whole = (do let v ← whole; standAt a.pos; holding [v] (truthy v)) := by intro _; rfl) : ST X g W a (bTru fa) :=
  PTimp (pt_truth ha he) fun σ H Q h => bOne h fun μ v S x H2 rs rv q => by
    split at q
    · rename_i b e
      exact ⟨b, by rw [hK]; exact truV rs rv e, Post.here q rs rfl⟩
    · exact q.elim
theorem st_cmp {op : CmpOp} {f : BOp} (ho : OpR X (compareOp op) (rV2 g f)) (ha : SE X g W a fa) (hb : SE X g W b fb) (hm : behindInMarks op b = false := by first | exact nomark _ | rfl) : ST X g W (.Compare a [op] [b] pos) (bCmp f fa fb) :=
  PTimp (pt_cmpR ho ha hb hm) fun σ H Q h => by
    obtain ⟨μ, ρ, S, re, rs, p⟩ := h
    refine ⟨μ, ρ, S, re, rs, (Post.bind p).imp fun x H1 ⟨μ1, v, S1, p1, l1, rs1, rv, q⟩ => ?_⟩
    refine ⟨μ1, ρ, S1, re.mono p1 l1, rs1, (Post.bind q).imp fun y H2 ⟨μ2, w, S2, p2, l2, rs2, rw', q2⟩ => ?_⟩
    split at q2
    · rename_i c S3 e
      refine ⟨μ2, v, w, S2, .bl c, S3, rs2, rv.mono p2 l2, rw', e, fun μ' x' H' hp hl rs' r => ?_⟩
      cases r
      exact ⟨c, rfl, q2 μ' c H' hp hl rs' rfl⟩
    · exact q2.elim
theorem st_not (ha : ST X g W a ta) : ST X g W (.UnaryOp .Not a pos) (bNot ta) :=
  PTimp (pt_not ha) fun σ H Q h => by
    obtain ⟨μ, ρ, S, re, rs, p⟩ := h
    exact ⟨μ, ρ, S, re, rs, (Post.bind p).imp fun x H1 ⟨μ1, v, S1, p1, l1, rs1, rv, q⟩ => by subst rv; exact Post.here q rs1 rfl⟩
/-- a and b and .. as a test -/
abbrev SW (X : Cx) (g : G) (W : WX) (e : Expr) (f : Env' → Store → R Bool) : Prop := PW X e (tEvB g W f)
theorem sw_and1 (ha : ST X g W a ta) : SW X g W (.BoolOp .And [a] pos) ta := pw_and1 ha
theorem sw_or1 (ha : ST X g W a ta) : SW X g W (.BoolOp .Or [a] pos) ta := pw_or1 ha
theorem sw_and (ha : ST X g W a ta) (hb : SW X g W (.BoolOp .And (b :: rest) pos) tb) : SW X g W (.BoolOp .And (a :: b :: rest) pos) (bAnd ta tb) :=
  PWimp (pw_and ha hb) fun σ H Q h => by
    obtain ⟨μ, ρ, S, re, rs, p⟩ := h
    refine ⟨μ, ρ, S, re, rs, (Post.bind p).imp fun x H1 ⟨μ1, v, S1, p1, l1, rs1, rv, q⟩ => ?_⟩
    subst rv
    cases v with
    | true => exact ⟨μ1, ρ, S1, re.mono p1 l1, rs1, q⟩
    | false => exact Post.here q rs1 rfl
theorem sw_or (ha : ST X g W a ta) (hb : SW X g W (.BoolOp .Or (b :: rest) pos) tb) : SW X g W (.BoolOp .Or (a :: b :: rest) pos) (bOr ta tb) :=
  PWimp (pw_or ha hb) fun σ H Q h => by
    obtain ⟨μ, ρ, S, re, rs, p⟩ := h
    refine ⟨μ, ρ, S, re, rs, (Post.bind p).imp fun x H1 ⟨μ1, v, S1, p1, l1, rs1, rv, q⟩ => ?_⟩
    subst rv
    cases v with
    | false => exact ⟨μ1, ρ, S1, re.mono p1 l1, rs1, q⟩
    | true => exact Post.here q rs1 rfl
theorem st_w (h : SW X g W a ta) : ST X g W a ta := h.pt
/-- a < b < c -/
def bChn (o1 o2 : BOp) (a b c : Env' → Store → R PV) : Env' → Store → R Bool := fun ρ S => (a ρ S).bind fun v S1 => (b ρ S1).bind fun w S2 => match o1 v w S2 with
  | some (.bl k, S3) => if k then (c ρ S3).bind fun z S4 => match o2 w z S4 with
      | some (.bl k2, S5) => .ok k2 S5
      | _ => .bad
    else .ok false S3
  | _ => .bad
theorem st_chn {o1 o2 : CmpOp} {f1 f2 : BOp} (h1 : OpR X (compareOp o1) (rV2 g f1)) (h2 : OpR X (compareOp o2) (rV2 g f2)) (ha : SE X g W a fa) (hb : SE X g W b fb) (hc : SE X g W c fc) (m : lastMarks [o1, o2] [b, c] = false := by rfl) : ST X g W (.Compare a [o1, o2] [b, c] pos) (bChn f1 f2 fa fb fc) :=
  PTimp (pt_chain h1 h2 ha hb hc m) fun σ H Q h => by
    obtain ⟨μ, ρ, S, re, rs, p⟩ := h
    refine ⟨μ, ρ, S, re, rs, (Post.bind p).imp fun x H1 ⟨μ1, v, S1, p1, l1, rs1, rv, q⟩ => ?_⟩
    refine ⟨μ1, ρ, S1, re.mono p1 l1, rs1, (Post.bind q).imp fun y H2 ⟨μ2, w, S2, p2, l2, rs2, rw', q2⟩ => ?_⟩
    split at q2
    · rename_i k S3 e
      refine ⟨μ2, v, w, S2, .bl k, S3, rs2, rv.mono p2 l2, rw', e, fun μ' x' H' hp hl rs' r => ?_⟩
      cases r
      refine ⟨k, rfl, ?_⟩
      have q3 := Post.later q2 hp hl
      cases k with
      | false =>
        rw [if_neg Bool.false_ne_true]
        exact ⟨false, rfl, q3 μ' false H' .refl .refl rs' rfl⟩
      | true =>
        refine ⟨μ', ρ, S3, ((re.mono p1 l1).mono p2 l2).mono hp hl, rs', (Post.bind (r := fc ρ S3) q3).imp fun z H4 ⟨μ4, z', S4, p4, l4, rs4, rz, q4⟩ => ?_⟩
        split at q4
        · rename_i k2 S5 e2
          refine ⟨μ4, w, z', S4, .bl k2, S5, rs4, (rw'.mono hp hl).mono p4 l4, rz, e2, fun μ' x' H' hp hl rs' r => ?_⟩
          cases r
          exact ⟨k2, rfl, q4 μ' k2 H' hp hl rs' rfl⟩
        · exact q4.elim
    · exact q2.elim
/-- a test as a value (a chain) -/
def eB (t : Env' → Store → R Bool) : Env' → Store → R PV := fun ρ S => (t ρ S).bind fun c S1 => .ok (.bl c) S1
theorem se_chn {o1 o2 : CmpOp} {f1 f2 : BOp} (h1 : OpR X (compareOp o1) (rV2 g f1)) (h2 : OpR X (compareOp o2) (rV2 g f2)) (ha : SE X g W a fa) (hb : SE X g W b fb) (hc : SE X g W c fc) (m : lastMarks [o1, o2] [b, c] = false := by rfl) : SE X g W (.Compare a [o1, o2] [b, c] pos) (eB (bChn f1 f2 fa fb fc)) :=
  PEimp (pe_chain h1 h2 ha hb hc m) fun σ H Q h => by
    obtain ⟨μ, ρ, S, re, rs, p0⟩ := h
    have p : PostB g W σ μ H (bChn f1 f2 fa fb fc ρ S) (fun b H' => Q (.bl b) H') := by
      refine (Post.bind (rel := fun _ _ a b => a = b) p0).imp fun x H1 ⟨μ1, v, S1, p1, l1, rs1, rv, q⟩ => ?_
      subst rv
      exact Post.here q rs1 (.bl _)
    refine ⟨μ, ρ, S, re, rs, (Post.bind p).imp fun x H1 ⟨μ1, v, S1, p1, l1, rs1, rv, q⟩ => ?_⟩
    refine ⟨μ1, ρ, S1, re.mono p1 l1, rs1, (Post.bind q).imp fun y H2 ⟨μ2, w, S2, p2, l2, rs2, rw', q2⟩ => ?_⟩
    split at q2
    · rename_i k S3 e
      refine ⟨μ2, v, w, S2, .bl k, S3, rs2, rv.mono p2 l2, rw', e, fun μ' x' H' hp hl rs' r => ?_⟩
      cases r
      refine ⟨k, rfl, ?_⟩
      have q3 := Post.later q2 hp hl
      cases k with
      | false =>
        rw [if_neg Bool.false_ne_true]
        exact q3 μ' false H' .refl .refl rs' rfl
      | true =>
        refine ⟨μ', ρ, S3, ((re.mono p1 l1).mono p2 l2).mono hp hl, rs', (Post.bind (r := fc ρ S3) q3).imp fun z H4 ⟨μ4, z', S4, p4, l4, rs4, rz, q4⟩ => ?_⟩
        split at q4
        · rename_i k2 S5 e2
          refine ⟨μ4, w, z', S4, .bl k2, S5, rs4, (rw'.mono hp hl).mono p4 l4, rz, e2, fun μ' x' H' hp hl rs' r => ?_⟩
          cases r
          exact q4 μ' k2 H' hp hl rs' rfl
        · exact q4.elim
    · exact q2.elim
/-- x if t else y -/
theorem se_if {t : Expr} {ft : Env' → Store → R Bool} (ht : ST X g W t ft) (ha : SE X g W a fa) (hb : SE X g W b fb) : SE X g W (.IfExp t a b pos) (eIf ft fa fb) :=
  PEimp (pe_ifExp ht ha hb) fun σ H Q h => by
    obtain ⟨μ, ρ, S, re, rs, p⟩ := h
    refine ⟨μ, ρ, S, re, rs, (Post.bind p).imp fun x H1 ⟨μ1, v, S1, p1, l1, rs1, rv, q⟩ => ?_⟩
    subst rv
    cases v with
    | true => exact ⟨μ1, ρ, S1, re.mono p1 l1, rs1, q⟩
    | false => exact ⟨μ1, ρ, S1, re.mono p1 l1, rs1, q⟩
/-- a and b, a or b, not a as values -/
def eAnd (a b : Env' → Store → R PV) : Env' → Store → R PV := fun ρ S => (a ρ S).bind fun v S1 => match truP v S1 with
  | some true => b ρ S1
  | some false => .ok v S1
  | none => .bad
def eOr (a b : Env' → Store → R PV) : Env' → Store → R PV := fun ρ S => (a ρ S).bind fun v S1 => match truP v S1 with
  | some true => .ok v S1
  | some false => b ρ S1
  | none => .bad
def eNot (a : Env' → Store → R PV) : Env' → Store → R PV := fun ρ S => (a ρ S).bind fun v S1 => match truP v S1 with
  | some c => .ok (.bl (!c)) S1
  | none => .bad
theorem se_one {op : PySem.BoolOp} (ha : SE X g W a fa) : SE X g W (.BoolOp op [a] pos) fa := pe_one ha
theorem se_and (hK : X.K = g.K) (ha : SE X g W a fa) (hb : SE X g W (.BoolOp .And (b :: rest) pos) fb) : SE X g W (.BoolOp .And (a :: b :: rest) pos) (eAnd fa fb) :=
  PEimp (pe_andT ha hb) fun σ H Q h => by
    obtain ⟨μ, ρ, S, re, rs, p⟩ := h
    refine ⟨μ, ρ, S, re, rs, (Post.bind p).imp fun x H1 ⟨μ1, v, S1, p1, l1, rs1, rv, q⟩ => ?_⟩
    split at q
    · rename_i e; exact ⟨true, by rw [hK]; exact truV rs1 rv e, μ1, ρ, S1, re.mono p1 l1, rs1, q⟩
    · rename_i e; exact ⟨false, by rw [hK]; exact truV rs1 rv e, Post.here q rs1 rv⟩
    · exact q.elim
theorem se_or (hK : X.K = g.K) (ha : SE X g W a fa) (hb : SE X g W (.BoolOp .Or (b :: rest) pos) fb) : SE X g W (.BoolOp .Or (a :: b :: rest) pos) (eOr fa fb) :=
  PEimp (pe_orT ha hb) fun σ H Q h => by
    obtain ⟨μ, ρ, S, re, rs, p⟩ := h
    refine ⟨μ, ρ, S, re, rs, (Post.bind p).imp fun x H1 ⟨μ1, v, S1, p1, l1, rs1, rv, q⟩ => ?_⟩
    split at q
    · rename_i e; exact ⟨true, by rw [hK]; exact truV rs1 rv e, Post.here q rs1 rv⟩
    · rename_i e; exact ⟨false, by rw [hK]; exact truV rs1 rv e, μ1, ρ, S1, re.mono p1 l1, rs1, q⟩
    · exact q.elim
theorem se_not (hK : X.K = g.K) (ha : SE X g W a fa) : SE X g W (.UnaryOp .Not a pos) (eNot fa) :=
  PEimp (pe_notT ha) fun σ H Q h => one h fun μ v S x H2 rs rv q => by
    split at q
    · rename_i c e; exact ⟨c, by rw [hK]; exact truV rs rv e, Post.here q rs (.bl _)⟩
    · exact q.elim

/-! ### arguments, displays -/
theorem sa_nil : SA X g W [] eNil := PAimp pa_nil fun σ H Q ⟨μ, ρ, S, re, rs, p⟩ => Post.here p rs .nil
theorem sa_cons (ha : SE X g W a fa) (hr : SA X g W es fs) (hs : starEach (a :: es) X.env = (false, eval a X.env) :: starEach es X.env := by rfl) : SA X g W (a :: es) (eCons fa fs) :=
  PAimp (pa_cons ha hr hs) fun σ H Q h => by
    obtain ⟨μ, ρ, S, re, rs, p⟩ := h
    refine ⟨μ, ρ, S, re, rs, (Post.bind p).imp fun x H1 ⟨μ1, v, S1, p1, l1, rs1, rv, q⟩ => ?_⟩
    refine ⟨μ1, ρ, S1, re.mono p1 l1, rs1, (Post.bind (rel := Rps g.K) q).imp fun xs H2 ⟨μ2, vs, S2, p2, l2, rs2, rvs, q2⟩ => ?_⟩
    exact Post.here q2 rs2 (.cons (rv.mono p2 l2) rvs)
theorem aOne {k : List PV → Store → R PV} {σ : St} {H : Hp} {Q : VK} {r : List V → Hp → Prop} (h : tEv g W (fun ρ S => (fs ρ S).bind fun v S1 => k v S1) σ H Q)
    (hr : ∀ μ vs S xs H2, RS g μ S H2 → Rps g.K μ H2 vs xs → PostE g W σ μ H2 (k vs S) Q → r xs H2) : tEvA g W fs σ H fun x H1 => r x H1 := by
  obtain ⟨μ, ρ, S, re, rs, p⟩ := h
  exact ⟨μ, ρ, S, re, rs, (Post.bind p).imp fun x H1 ⟨μ1, v, S1, p1, l1, rs1, rv, q⟩ => hr μ1 v S1 x H1 rs1 rv q⟩
theorem se_tup {k : Nat} (h : SA X g W es fs) : SE X g W (.Tuple es k pos) (eTup fs) :=
  PEimp (pe_tup h) fun σ H Q q => aOne q fun μ vs S xs H2 rs rv q => by
    split at q
    · rename_i hl
      exact ⟨by rw [← rv.length, line_eq]; exact hl, fun p hp => q μ _ _ .refl (.upd (.none hp)) (rs.laid hp) (.newT hp rv)⟩
    · exact q.elim
theorem se_lst (h : SA X g W es fs) : SE X g W (.List es pos) (eLst fs) :=
  PEimp (pe_lst h) fun σ H Q q => aOne q fun μ vs S xs H2 rs rv q => by
    split at q
    · rename_i hl
      exact ⟨by rw [← rv.length, line_eq]; exact hl, fun p hp => q _ _ _ ⟨[p], rfl⟩ (.upd (.none hp)) (rs.newL hp rv) (Rp.atEnd rs p _)⟩
    · exact q.elim

/-! ### subscripts and slices -/
def ixP : BOp
  | .tup xs, .int i, S => match atI xs i with
    | some v => some (v, S)
    | none => none
  | .str s, .int i, S => if s.length ≤ LINE then match atI s i with
      | some c => some (.str [c], S)
      | none => none
    else none
  | .loc l, .int i, S => match S[l]? with
    | some (.lst xs) => match atI xs i with
      | some v => some (v, S)
      | none => none
    | _ => none
  | _, _, _ => none
theorem ixN_len {α β : Type} {xs : List α} {ys : List β} (h : xs.length = ys.length) (i : Int) : ixN xs.length i = ixN ys.length i := by rw [h]
theorem Rps.atI {K : PySem.W.Frag} {μ : List Addr} {H : Hp} {xs : List PV} {vs : List V} (r : Rps K μ H xs vs) {i : Int} {v : PV} (h : L2.atI xs i = some v) : ∃ x, L2.atI vs i = some x ∧ Rp K μ H v x := by
  unfold L2.atI at h ⊢
  rw [← ixN_len r.length i]
  cases e : ixN xs.length i with
  | none => rw [e] at h; cases h
  | some j =>
    rw [e] at h
    obtain ⟨x, e2, rx⟩ := r.get (i := j) h
    exact ⟨x, e2, rx⟩
theorem ixV (hK : X.K = g.K) : IxR X (rV2 g ixP) := by
  intro value slice pins s σ H x y v u Q I rx ry h hs
  obtain ⟨μ, a, b, S, z, S', rs, ra, rb, e, k⟩ := h
  unfold ixP at e
  split at e
  · split at e
    · rename_i v' e1
      cases e
      cases rb
      cases ra with
      | tup h1 r1 =>
        obtain ⟨xv, e2, rxv⟩ := r1.atI e1
        exact ix_tup value slice pins s σ H _ _ v u Q I rx ry ⟨_, _, _, xv, rfl, rfl, by rw [hK]; exact h1, e2, k μ _ H .refl .refl rs rxv⟩ hs
    · cases e
  · split at e
    · rename_i hl
      split at e
      · rename_i c e1
        cases e
        cases rb
        cases ra
        exact ix_str value slice pins s σ H _ _ v u Q I rx ry ⟨_, _, c, rfl, rfl, by rw [slen, line_eq]; exact hl, by rw [scps]; exact e1, k μ _ H .refl .refl rs (.str [c])⟩ hs
      · cases e
    · cases e
  · split at e
    · rename_i e0
      split at e
      · rename_i v' e1
        cases e
        cases rb
        cases ra with
        | loc h1 =>
          obtain ⟨vs, q1, r1⟩ := rs.lst h1 e0
          obtain ⟨xv, e2, rxv⟩ := r1.atI e1
          exact ix_list value slice pins s σ H _ _ v u Q I rx ry ⟨_, _, _, xv, rfl, rfl, .inl (.inl q1), e2, k μ _ H .refl .refl rs rxv⟩ hs
      · cases e
    · cases e
  · cases e
theorem se_ix (hK : X.K = g.K) (ha : SE X g W a fa) (hb : SE X g W b fb) (hs : PlainIx b := by exact fun _ _ => rfl) : SE X g W (.Subscript a b pos) (eBin ixP fa fb) :=
  PEimp (pe_ix (ixV hK) ha hb hs) fun σ H Q h => two h fun μ v w S x y H2 rs rv rw' q => rV2_of rs rv rw' q
/-- the part of a slice -/
def cutL {α : Type} (xs : List α) (lo hi : Option Int) : List α := (xs.drop (HT.sIx xs.length 0 lo)).take (HT.sIx xs.length xs.length hi - HT.sIx xs.length 0 lo)
def slP (v : PV) (lo hi : Option Int) (S : Store) : Option (PV × Store) := match v with
  | .tup xs => some (.tup (cutL xs lo hi), S)
  | .str s => if s.length ≤ LINE then some (.str (cutL s lo hi), S) else none
  | .loc l => match S[l]? with
    | some (.lst xs) => some (.loc S.length, S ++ [.lst (cutL xs lo hi)])
    | some (.rol xs) => some (.loc S.length, S ++ [.lst (cutL xs lo hi)])
    | _ => none
  | _ => none
theorem Rps.cut {K : PySem.W.Frag} {μ : List Addr} {H : Hp} {xs : List PV} {vs : List V} (r : Rps K μ H xs vs) (lo hi : Option Int) : Rps K μ H (cutL xs lo hi) (cutV vs lo hi) := by
  unfold cutL cutV
  rw [← r.length]
  exact (r.drop _).take _
end
end Ev


/-! Ev: slices, calls. -/
namespace EvT
open PySem PySem.Spec PyProof.Rows L2
variable {prog : Program} {w : World} {A : Around} {E : Value → Shared → Prop} {s : Shared}
theorem pickRev (xs : Array Value) : ((List.range xs.size).filterMap fun (m : Nat) => xs[(((xs.size : Int) - 1) + (m : Int) * (-1)).toNat]?).toArray = xs.toList.reverse.toArray := by
  have h : ∀ (l : List Value) (k : Nat), k ≤ l.length → ((List.range k).filterMap fun (m : Nat) => l[(((l.length : Int) - 1) + (m : Int) * (-1)).toNat]?) = (l.drop (l.length - k)).reverse := by
    intro l k
    induction k with
    | zero => intro _; simp
    | succ k ih =>
      intro hk
      rw [List.range_succ, List.filterMap_append, ih (by omega)]
      have e : (((l.length : Int) - 1) + (k : Int) * (-1)).toNat = l.length - (k + 1) := by omega
      have e2 : l.drop (l.length - (k + 1)) = l[l.length - (k + 1)]'(by omega) :: l.drop (l.length - k) := by
        rw [List.drop_eq_getElem_cons (by omega)]
        congr 1
        congr 1
        omega
      rw [e2, List.reverse_cons]
      congr 1
      simp only [List.filterMap_cons, List.filterMap_nil]
      rw [e, List.getElem?_eq_getElem (by omega)]
  have := h xs.toList xs.size (by simp)
  simp only [Array.length_toList, Array.getElem?_toList, Nat.sub_self, List.drop_zero] at this
  rw [this]
theorem getItem_tuple_rev {t sl : Addr} {items : Array Value} {vl vu vk : Value} {Q : Value → Shared → Prop} (ht : IsTup s.heap t items) (hs : s.heap.IsSliceOf sl vl vu vk) (pl : IsPart vl none) (pu : IsPart vu none) (pk : IsPart vk (some (-1)))
    (h : Q (.ref s.heap.objs.size) { s with heap := s.heap.push { cls := .type "tuple", data := .seq items.toList.reverse.toArray } })
    (hsz : items.size ≤ sizeLine) : wpAny (model prog w) A (getItem (.ref t) (.ref sl)) Q E s := by
  have htake : sizeOk (.seq items.toList.reverse.toArray) := by
    show items.toList.reverse.toArray.size ≤ sizeLine
    rw [List.size_toArray, List.length_reverse, Array.length_toList]
    omega
  obtain ⟨os, hos, hcs, hds⟩ := id hs
  have hTs : s.TypeIs (.ref sl) "slice" := ⟨os, hos, hcs⟩
  unfold getItem
  try with_reducible refine wpAny_holding ?_
  first | refine wpAny_bind (wpAny_pure ?_) | skip
  refine wpAny_bind (wpAny_sequenceKey ht.typeIs (by decide) ?_)
  refine wpAny_bind (wpAny_callSpecial?_slot (name := Str.ofString "__getitem__") ht.typeIs PyProof.Rows.slot_tuple_getitem
    (wpAny_call_entry PyProof.Rows.slot_tuple_getitem ht.typeIs entry_tuple_getitem ?_ (args_tuple_getitem _ _)))
  show wpAny _ _ (Builtin.Tuple.tupleItemsOf (.ref t) >>= _) _ _ s
  refine wpAny_bind (PyProof.Rows.tupleItemsOf_ ht ?_)
  refine wpAny_bind (wpAny_typeOf hTs ?_)
  rw [if_pos (by decide)]
  have happ : ∀ {Q : Int × Int × Nat → Shared → Prop}, Q ((items.size : Int) - 1, -1, items.size) s → wpAny (model prog w) A.in1 (Builtin.Slice.sliceApplied (.ref sl) (pure (items.size : Int))) Q E s := by
    intro Q h
    unfold Builtin.Slice.sliceApplied Builtin.Slice.sliceFields
    refine wpAny_bind (wpAny_bind (wpAny_field hos hds (x := vl) rfl (wpAny_bind (wpAny_field hos hds (x := vu) rfl (wpAny_bind (wpAny_field hos hds (x := vk) rfl (wpAny_pure ?_)))))))
    cases pk with
    | int _ tk =>
      refine wpAny_bind (HT.slicePart_ (.int (-1) tk) ?_)
      show wpAny _ _ (if ((-1 : Int) == 0) = true then _ else _) _ _ s
      rw [if_neg (by decide)]
      refine wpAny_bind (HT.slicePart_ pl (wpAny_bind (HT.slicePart_ pu (wpAny_bind (wpAny_pure ?_)))))
      show wpAny _ _ (match Builtin.Slice.sliceAdjust none none (-1) (items.size : Int) with | (lo, hi) => pure (lo, (-1 : Int), Builtin.Slice.slicePlaces lo hi (-1))) _ _ s
      have e1 : Builtin.Slice.sliceAdjust none none (-1) (items.size : Int) = ((items.size : Int) - 1, -1) := by
        unfold Builtin.Slice.sliceAdjust
        simp
      rw [e1]
      have e2 : Builtin.Slice.slicePlaces ((items.size : Int) - 1) (-1) (-1) = items.size := by
        unfold Builtin.Slice.slicePlaces
        have h1 : ¬ ((-1 : Int) > 0) := by omega
        have h2 : - (-1 : Int) = 1 := by decide
        simp only [h1, if_false, h2, Int.ediv_one]
        split <;> omega
      show wpAny _ _ (pure ((items.size : Int) - 1, (-1 : Int), Builtin.Slice.slicePlaces ((items.size : Int) - 1) (-1) (-1))) _ _ s
      rw [e2]
      exact wpAny_pure h
  refine wpAny_bind (happ ?_)
  have hno : ¬ ((((items.size : Int) - 1) == 0 && (-1 : Int) == 1 && items.size == items.size) = true) := by
    intro q
    rw [Bool.and_eq_true, Bool.and_eq_true] at q
    exact absurd q.1.2 (by decide)
  show wpAny _ _ (if (((items.size : Int) - 1) == 0 && (-1 : Int) == 1 && items.size == items.size) = true then _ else _) _ _ s
  rw [if_neg hno, pickRev]
  first
    | exact wpAny_bind (m := Builtin.Tuple.tupleExact _) (wpAny_newObj_type (wpAny_pure ⟨_, rfl, wpAny_pure h⟩) htake)
    | exact wpAny_bind (m := Builtin.Tuple.tupleExact _) (wpAny_newObj_type (wpAny_bind (wpAny_pure (wpAny_pure ⟨_, rfl, wpAny_pure h⟩))) htake)
    | exact wpAny_bind (wpAny_bind (m := Builtin.Tuple.tupleExact _) (wpAny_newObj_type (wpAny_pure (wpAny_pure ⟨_, rfl, wpAny_pure h⟩)) htake))
    | exact wpAny_bind (wpAny_bind (m := Builtin.Tuple.tupleExact _) (wpAny_newObj_type (wpAny_pure ⟨_, rfl, wpAny_pure h⟩) htake))
end EvT
namespace Ev
open PySem PySem.Spec PyProof.Rows L2
/-- xs[::-1] of a list or a tuple -/
def tRevA (K : PySem.W.Frag) (te : TE) : TE := fun σ H Q => te σ H fun x H1 => ∃ a xs, x = .ref a ∧ ((SqL K H1 a xs ∧ ∀ p, H1 p = none → Q (.ref p) (upd H1 p (.lst xs.reverse))) ∨ (SqT K H1 a xs ∧ ∀ p, H1 p = none → Q (.ref p) (upd H1 p (.tup xs.reverse))))
theorem pe_revA {X : Cx} {e : Expr} {te : TE} {k : Nat} {p1 p2 p3 pos : Pos} (he : PE X e te) : PE X (.Subscript e (.Slice none none (some (.UnaryOp .USub (.Constant (.int 1) k p1) p2)) p3) pos) (tRevA X.K te) := by
  refine ⟨fun pins s σ H Q I h => ?_⟩
  refine Subscript_ (thn (he.run pins s σ H _ I h) fun v s1 ⟨x, H1, I1, r1, q1⟩ => ?_)
  obtain ⟨a, xs, ex, q⟩ := q1
  subst ex
  cases r1
  have hst : PO X (some (.UnaryOp .USub (.Constant (.int 1) k p1) p2)) (tPart (tUn (rU fun i => .int (-i)) (tC (.int 1)))) := po_some (pe_un un_neg pe_int)
  refine wpAny_Slice (thn (po_none.run pins s1 σ H1 (fun o H2 => o = none ∧ H2 = H1) I1 ⟨rfl, rfl⟩) fun vl s2 ⟨l, H2, I2, pl, el, e2⟩ => ?_)
  subst el e2
  refine thn (po_none.run pins s2 σ H2 (fun o H3 => o = none ∧ H3 = H2) I2 ⟨rfl, rfl⟩) fun vu s3 ⟨u, H3, I3, pu, eu, e3⟩ => ?_
  subst eu e3
  refine thn (hst.run pins s3 σ H3 (fun o H4 => o = some (-1) ∧ H4 = H3) I3 ⟨1, rfl, -1, rfl, rfl, rfl⟩) fun vs s4 ⟨o, H4, I4, ps, eo, e4⟩ => ?_
  subst eo e4
  have I5 : Inv X pins σ H4 { s4 with heap := s4.heap.push { cls := .type "slice", data := .fields #[vl, vu, vs] } } := I4.kept (t' := s4.toks) fun b ob q => Heap.get?_push_of_some _ q
  show wpAny (model X.prog X.w) X.A (subscriptTail e (.Slice none none (some (.UnaryOp .USub (.Constant (.int 1) k p1) p2)) p3) (.ref a) (.ref s4.heap.objs.size)) (EP X pins σ Q) X.xe { s4 with heap := s4.heap.push { cls := .type "slice", data := .fields #[vl, vu, vs] } }
  rcases q with ⟨hx, q⟩ | ⟨hx, q⟩
  · obtain ⟨its, r, ht, hz⟩ := I5.list hx
    have hlen := r.length
    refine tail_any (ops := [.ref a, .ref s4.heap.objs.size]) ht.isList.typeIs (PySem.slot_list_getitem.lookup) ?_ (by with_unfolding_all rfl)
    refine wpAny_getItem_list_slice ht.isList (Heap.IsSliceOf.new _ vl vu vs) pl pu ps (by decide) ?_ (by rw [List.size_toArray]; omega)
    rw [PySem.W.krv_pick]
    refine ⟨.ref _, _, I5.laid (t' := s4.toks) (o := .lst xs.reverse) (fun b ob q => Heap.get?_push_of_some _ q) (Nat.le_refl _) ?_, rfl, q _ (I5.hok.fresh (Nat.le_refl _))⟩
    exact ⟨by rw [List.length_reverse]; exact hz, _, 0, r.reverse, Heap.get?_push_size _ rfl⟩
  · obtain ⟨its, r, ht, hz⟩ := I5.tuple hx
    have hlen := r.length
    refine tail_any (ops := [.ref a, .ref s4.heap.objs.size]) ht.typeIs (PyProof.Rows.slot_tuple_getitem.lookup) ?_ (by with_unfolding_all rfl)
    refine EvT.getItem_tuple_rev ht (Heap.IsSliceOf.new _ vl vu vs) pl pu ps ?_ (by rw [List.size_toArray]; omega)
    refine ⟨.ref _, _, I5.laid (t' := s4.toks) (o := .tup xs.reverse) (fun b ob q => Heap.get?_push_of_some _ q) (Nat.le_refl _) ?_, rfl, q _ (I5.hok.fresh (Nat.le_refl _))⟩
    exact ⟨by rw [List.length_reverse]; exact hz, _, r.reverse, ⟨_, Heap.get?_push_size _ rfl, rfl, 0, rfl⟩⟩
section
variable {X : Cx} {g : G} {W : WX} {pos p2 : Pos} {a b c : Expr} {fa fb fc : Env' → Store → R PV} {es : List Expr} {fs : Env' → Store → R (List PV)}
def revP : PV → Store → Option (PV × Store)
  | .tup xs, S => some (.tup xs.reverse, S)
  | .loc l, S => match S[l]? with
    | some (.lst xs) => some (.loc S.length, S ++ [.lst xs.reverse])
    | some (.rol xs) => some (.loc S.length, S ++ [.lst xs.reverse])
    | _ => none
  | _, _ => none
theorem se_rev {k : Nat} {p1 p3 : Pos} (hK : X.K = g.K) (ha : SE X g W a fa) : SE X g W (.Subscript a (.Slice none none (some (.UnaryOp .USub (.Constant (.int 1) k p1) p2)) p3) pos) (eUn revP fa) :=
  PEimp (pe_revA ha) fun σ H Q h => one h fun μ v S x H2 rs rv q => by
    obtain ⟨z, S', e, k⟩ := Post.ofO q
    unfold revP at e
    rw [hK]
    split at e
    · cases e
      cases rv with
      | tup h1 r1 => exact ⟨_, _, rfl, .inr ⟨h1, fun p hp => k μ _ _ .refl (.upd (.none hp)) (rs.laid hp) (.newT hp r1.rev)⟩⟩
    · split at e
      · rename_i e1
        cases e
        cases rv with
        | loc h1 =>
          obtain ⟨vs, q1, r1⟩ := rs.lst h1 e1
          exact ⟨_, vs, rfl, .inl ⟨.inl (.inl q1), fun p hp => k _ _ _ ⟨[p], rfl⟩ (.upd (.none hp)) (rs.newL hp r1.rev) (Rp.atEnd rs p _)⟩⟩
      · rename_i e1
        cases e
        cases rv with
        | loc h1 =>
          obtain ⟨vs, q1, r1⟩ := rs.obj _ _ _ h1 e1
          exact ⟨_, vs, rfl, .inl ⟨q1.sq, fun p hp => k _ _ _ ⟨[p], rfl⟩ (.upd (.none hp)) (rs.newL hp r1.rev) (Rp.atEnd rs p _)⟩⟩
      · cases e
    · cases e
/-! ### slices -/
abbrev EO := Env' → Store → R (Option Int)
def oNo : EO := fun _ S => .ok none S
def oSo (f : Env' → Store → R PV) : EO := fun ρ S => (f ρ S).bind fun v S1 => match v with
  | .int i => .ok (some i) S1
  | _ => .bad
def tEvO (g : G) (W : WX) (f : EO) : TO := fun σ H Q => ∃ μ ρ S, RE g.K μ H ρ σ ∧ RS g μ S H ∧ Post g (wx g W σ) μ H (fun _ _ a b => a = b) (f ρ S) Q
abbrev SOp (X : Cx) (g : G) (W : WX) (e : Option Expr) (f : EO) : Prop := PO X e (tEvO g W f)
theorem so_no : SOp X g W none oNo := ⟨fun pins s σ H Q I ⟨μ, ρ, S, re, rs, p⟩ => po_none.run pins s σ H Q I (Post.here p rs rfl)⟩
theorem so_so (ha : SE X g W a fa) : SOp X g W (some a) (oSo fa) := ⟨fun pins s σ H Q I ⟨μ, ρ, S, re, rs, p⟩ => (po_some ha).run pins s σ H Q I (by
  refine ⟨μ, ρ, S, re, rs, (Post.bind p).imp fun x H1 ⟨μ1, v, S1, p1, l1, rs1, rv, q⟩ => ?_⟩
  split at q
  · cases rv; exact ⟨_, rfl, Post.here q rs1 rfl⟩
  · exact q.elim)⟩
def eSl (a : Env' → Store → R PV) (lo hi : EO) : Env' → Store → R PV := fun ρ S => (a ρ S).bind fun v S1 => (lo ρ S1).bind fun l S2 => (hi ρ S2).bind fun h S3 => R.ofO (slP v l h S3)
theorem cutS_of (s : List Nat) (lo hi : Option Int) : cutS ⟨s.toArray⟩ lo hi = ⟨(cutL s lo hi).toArray⟩ := by
  unfold cutS cutL
  rw [slen]
def rSl (g : G) : V → Option Int → Option Int → Hp → VK → Prop := fun x lo hi H Q => ∃ μ v S z S', RS g μ S H ∧ Rp g.K μ H v x ∧ slP v lo hi S = some (z, S') ∧
  ∀ μ' x' H', Pre μ μ' → Le g.K H H' → RS g μ' S' H' → Rp g.K μ' H' z x' → Q x' H'
theorem slV (hK : X.K = g.K) : SlR X (rSl g) := by
  intro pins s σ H x v vl vu lo hi sl Q I rx hs pl pu h
  obtain ⟨μ, a, S, z, S', rs, ra, e, k⟩ := h
  unfold slP at e
  split at e
  · rename_i xs
    cases e
    cases ra with
    | tup h1 r1 =>
      have rc := r1.cut lo hi
      refine sl_tupA pins s σ H _ v vl vu lo hi sl Q I rx hs pl pu ⟨_, _, rfl, by rw [hK]; exact h1, fun hw => ?_, fun hw p hp => ?_⟩
      · refine k μ _ H .refl .refl rs ?_
        have e : cutL xs lo hi = xs := by
          unfold cutL
          rw [r1.length, hw.1, hw.2, Nat.sub_zero, List.drop_zero, ← r1.length, List.take_length]
        rw [e]
        exact .tup h1 r1
      · exact k μ _ _ .refl (.upd (.none hp)) (rs.laid hp) (.newT hp rc)
  · split at e
    · rename_i hl
      cases e
      cases ra
      refine sl_str pins s σ H _ v vl vu lo hi sl Q I rx hs pl pu ⟨_, rfl, by rw [slen, line_eq]; exact hl, ?_⟩
      rw [cutS_of]
      exact k μ _ H .refl .refl rs (.str _)
    · cases e
  · split at e
    · rename_i e1
      cases e
      cases ra with
      | loc h1 =>
        obtain ⟨vs, q1, r1⟩ := rs.lst h1 e1
        exact sl_list pins s σ H _ v vl vu lo hi sl Q I rx hs pl pu ⟨_, _, rfl, .inl (.inl q1), fun p hp => k _ _ _ ⟨[p], rfl⟩ (.upd (.none hp)) (rs.newL hp (r1.cut lo hi)) (Rp.atEnd rs p _)⟩
    · rename_i e1
      cases e
      cases ra with
      | loc h1 =>
        obtain ⟨vs, q1, r1⟩ := rs.obj _ _ _ h1 e1
        refine sl_list pins s σ H _ v vl vu lo hi sl Q I rx hs pl pu ⟨_, vs, rfl, ?_, fun p hp => k _ _ _ ⟨[p], rfl⟩ (.upd (.none hp)) (rs.newL hp (r1.cut lo hi)) (Rp.atEnd rs p _)⟩
        rw [hK]
        exact q1.sq
    · cases e
  · cases e
theorem se_sl {lo hi : Option Expr} {fl fh : EO} (hK : X.K = g.K) (ha : SE X g W a fa) (hl : SOp X g W lo fl) (hh : SOp X g W hi fh) : SE X g W (.Subscript a (.Slice lo hi none p2) pos) (eSl fa fl fh) :=
  PEimp (pe_slice (slV hK) ha hl hh) fun σ H Q h => by
    obtain ⟨μ, ρ, S, re, rs, p⟩ := h
    refine ⟨μ, ρ, S, re, rs, (Post.bind p).imp fun x H1 ⟨μ1, v, S1, p1, l1, rs1, rv, q⟩ => ?_⟩
    refine ⟨μ1, ρ, S1, re.mono p1 l1, rs1, (Post.bind (rel := fun _ _ a b => a = b) q).imp fun lo H2 ⟨μ2, l, S2, p2, l2, rs2, rl, q2⟩ => ?_⟩
    subst rl
    refine ⟨μ2, ρ, S2, (re.mono p1 l1).mono p2 l2, rs2, (Post.bind (rel := fun _ _ a b => a = b) q2).imp fun hi H3 ⟨μ3, h, S3, p3, l3, rs3, rh, q3⟩ => ?_⟩
    subst rh
    obtain ⟨z, S', e, k⟩ := Post.ofO q3
    exact ⟨μ3, v, S3, z, S', rs3, (rv.mono p2 l2).mono p3 l3, e, k⟩

/-! ### built-ins -/
abbrev AOp := List PV → Store → Option (PV × Store)
def eCl (f : AOp) (a : Env' → Store → R (List PV)) : Env' → Store → R PV := fun ρ S => (a ρ S).bind fun vs S1 => R.ofO (f vs S1)
theorem rVs_of {f : AOp} {σ : St} {μ : List Addr} {H : Hp} {vs : List PV} {xs : List V} {S : Store} {Q : VK} (rs : RS g μ S H) (rv : Rps g.K μ H vs xs) (q : PostE g W σ μ H (R.ofO (f vs S)) Q) : rVs g f xs H Q := by
  obtain ⟨z, S', e, k⟩ := Post.ofO q
  exact ⟨μ, vs, S, z, S', rs, rv, e, k⟩
variable {x : Str} {id T : String} {f : AOp} {p : Pos}
theorem se_callB (hc : CallR X (.builtin id) (rVs g f)) (hg : Gl X x) (hm : X.mg x = none) (hv : bootBuiltins x = some (.builtin id)) (ha : SA X g W (a :: es) fs) (hn : x ≠ "__name__" := by decide) (hdb : (x == ("__debug__" : Str)) = false := by decide)
    (he : starEach (a :: es) X.env = (false, eval a X.env) :: starEach es X.env := by rfl) (hpl : (backTo pos (starEach es X.env)).any (·.1) = false := by rfl) : SE X g W (.Call (.Name x p) (a :: es) [] pos) (eCl f fs) :=
  PEimp (pe_callB hc hg hm hv ha hn hdb he hpl) fun σ H Q h => aOne h fun μ vs S xs H2 rs rv q => rVs_of rs rv q
theorem se_callTy (hc : CallR X (.type T) (rVs g f)) (hg : Gl X x) (hm : X.mg x = none) (hv : bootBuiltins x = some (.type T)) (ha : SA X g W (a :: es) fs) (hn : x ≠ "__name__" := by decide) (hdb : (x == ("__debug__" : Str)) = false := by decide)
    (he : starEach (a :: es) X.env = (false, eval a X.env) :: starEach es X.env := by rfl) (hpl : (backTo pos (starEach es X.env)).any (·.1) = false := by rfl) : SE X g W (.Call (.Name x p) (a :: es) [] pos) (eCl f fs) :=
  PEimp (pe_callTy hc hg hm hv ha hn hdb he hpl) fun σ H Q h => aOne h fun μ vs S xs H2 rs rv q => rVs_of rs rv q
def lenP : AOp
  | [.str s], S => if s.length ≤ LINE then some (.int s.length, S) else none
  | [.tup xs], S => some (.int xs.length, S)
  | [.loc l], S => match S[l]? with
    | some (.lst xs) => some (.int xs.length, S)
    | some (.rol xs) => some (.int xs.length, S)
    | some (.dic xs) => some (.int xs.length, S)
    | _ => none
  | _, _ => none
theorem Rps.one {K : PySem.W.Frag} {μ : List Addr} {H : Hp} {v : PV} {xs : List V} (r : Rps K μ H [v] xs) : ∃ x, xs = [x] ∧ Rp K μ H v x := by
  cases r with
  | cons a b => cases b; exact ⟨_, rfl, a⟩
theorem Rps.two {K : PySem.W.Frag} {μ : List Addr} {H : Hp} {v w : PV} {xs : List V} (r : Rps K μ H [v, w] xs) : ∃ x y, xs = [x, y] ∧ Rp K μ H v x ∧ Rp K μ H w y := by
  cases r with
  | cons a b => cases b with
    | cons c d => cases d; exact ⟨_, _, rfl, a, c⟩
theorem Rkv.length {K : PySem.W.Frag} {μ : List Addr} {H : Hp} : ∀ {xs : List (PV × PV)} {vs : List (Key × V)}, Rkv K μ H xs vs → xs.length = vs.length
  | _, _, .nil => rfl
  | _, _, .cons _ _ r => congrArg Nat.succ (Rkv.length r)
theorem callLen (hK : X.K = g.K) : CallR X (.builtin "len") (rVs g lenP) := by
  intro pins s σ H xs us Q I r h
  obtain ⟨μ, vs, S, z, S', rs, rv, e, k⟩ := h
  unfold lenP at e
  split at e
  · split at e
    · rename_i hl
      cases e
      obtain ⟨x, rfl, rx⟩ := rv.one
      cases rx
      refine call_len pins s σ H _ us Q I r ⟨_, _, rfl, ⟨by rw [slen, line_eq]; exact hl, rfl⟩, ?_⟩
      rw [slen]
      exact k μ _ H .refl .refl rs (.int _)
    · cases e
  · cases e
    obtain ⟨x, rfl, rx⟩ := rv.one
    cases rx with
    | tup h1 r1 =>
      refine call_len pins s σ H _ us Q I r ⟨_, _, rfl, .inr ⟨_, by rw [hK]; exact h1, rfl⟩, ?_⟩
      rw [← r1.length]
      exact k μ _ H .refl .refl rs (.int _)
  · split at e
    · rename_i e1
      cases e
      obtain ⟨x, rfl, rx⟩ := rv.one
      cases rx with
      | loc h1 =>
        obtain ⟨ws, q1, r1⟩ := rs.lst h1 e1
        refine call_len pins s σ H _ us Q I r ⟨_, _, rfl, .inl ⟨_, .inl (.inl q1), rfl⟩, ?_⟩
        rw [← r1.length]
        exact k μ _ H .refl .refl rs (.int _)
    · rename_i e1
      cases e
      obtain ⟨x, rfl, rx⟩ := rv.one
      cases rx with
      | loc h1 =>
        obtain ⟨ws, q1, r1⟩ := rs.obj _ _ _ h1 e1
        refine call_len pins s σ H _ us Q I r ⟨_, ws.length, rfl, .inl ⟨ws, by rw [hK]; exact q1.sq, rfl⟩, ?_⟩
        rw [← r1.length]
        exact k μ _ H .refl .refl rs (.int _)
    · rename_i e1
      cases e
      obtain ⟨x, rfl, rx⟩ := rv.one
      cases rx with
      | loc h1 =>
        obtain ⟨ws, q1, r1⟩ := rs.dic h1 e1
        refine call_lenD pins s σ H _ us Q I r ⟨_, ws, rfl, q1, ?_⟩
        rw [← r1.length]
        exact k μ _ H .refl .refl rs (.int _)
    · cases e
  · cases e
def intP : AOp
  | [.int i], S => some (.int i, S)
  | [.bl b], S => some (.int (if b then 1 else 0), S)
  | [.str s], S => if s.length ≤ 640 then match PySem.intText? ⟨s.toArray⟩ with
      | some n => some (.int n, S)
      | none => none
    else none
  | _, _ => none
theorem callInt : CallR X (.type "int") (rVs g intP) := by
  intro pins s σ H xs us Q I r h
  obtain ⟨μ, vs, S, z, S', rs, rv, e, k⟩ := h
  unfold intP at e
  split at e
  · cases e
    obtain ⟨x, rfl, rx⟩ := rv.one
    cases rx
    exact call_int1 pins s σ H _ us Q I r (.inl ⟨_, rfl, k μ _ H .refl .refl rs (.int _)⟩)
  · cases e
    obtain ⟨x, rfl, rx⟩ := rv.one
    cases rx
    exact call_int1 pins s σ H _ us Q I r (.inr ⟨_, rfl, k μ _ H .refl .refl rs (.int _)⟩)
  · split at e
    · rename_i hl
      split at e
      · rename_i n e1
        cases e
        obtain ⟨x, rfl, rx⟩ := rv.one
        cases rx
        exact call_int_str pins s σ H _ us Q I r ⟨_, n, rfl, e1, by rw [slen]; exact hl, k μ _ H .refl .refl rs (.int _)⟩
      · cases e
    · cases e
  · cases e
def istr (i : Int) : List Nat := (Str.ofString (toString i)).cps.toList
def strP : AOp
  | [.int i], S => if i.natAbs.log2 < 1920 then some (.str (istr i), S) else none
  | [.str s], S => some (.str s, S)
  | _, _ => none
theorem callStr : CallR X (.type "str") (rVs g strP) := by
  intro pins s σ H xs us Q I r h
  obtain ⟨μ, vs, S, z, S', rs, rv, e, k⟩ := h
  unfold strP at e
  split at e
  · split at e
    · rename_i hl
      cases e
      obtain ⟨x, rfl, rx⟩ := rv.one
      cases rx
      refine call_str_int pins s σ H _ us Q I r ⟨_, rfl, hl, ?_⟩
      have := k μ (.str ⟨(istr _).toArray⟩) H .refl .refl rs (.str _)
      rw [show (⟨(istr _).toArray⟩ : Str) = Str.ofString (toString _) from (sof _).symm] at this
      exact this
    · cases e
  · cases e
    obtain ⟨x, rfl, rx⟩ := rv.one
    cases rx
    exact SkE.call_str_str pins s σ H _ us Q I r ⟨_, rfl, k μ _ H .refl .refl rs (.str _)⟩
  · cases e
def absP : AOp
  | [.int i], S => some (.int (if i < 0 then -i else i), S)
  | _, _ => none
theorem callAbs : CallR X (.builtin "abs") (rVs g absP) := by
  intro pins s σ H xs us Q I r h
  obtain ⟨μ, vs, S, z, S', rs, rv, e, k⟩ := h
  unfold absP at e
  split at e
  · cases e
    obtain ⟨x, rfl, rx⟩ := rv.one
    cases rx
    exact call_abs pins s σ H _ us Q I r ⟨_, rfl, k μ _ H .refl .refl rs (.int _)⟩
  · cases e
def maxP : AOp
  | [.int i, .int j], S => some (.int (if j > i then j else i), S)
  | _, _ => none
theorem callMax (hc : X.calm = true) : CallR X (.builtin "max") (rVs g maxP) := by
  intro pins s σ H xs us Q I r h
  obtain ⟨μ, vs, S, z, S', rs, rv, e, k⟩ := h
  unfold maxP at e
  split at e
  · cases e
    obtain ⟨x, y, rfl, rx, ry⟩ := rv.two
    cases rx; cases ry
    exact call_max2 hc pins s σ H _ us Q I r ⟨_, _, rfl, k μ _ H .refl .refl rs (.int _)⟩
  · cases e
/-- tuple(x), x a list or a tuple -/
def tupP : AOp
  | [.tup xs], S => some (.tup xs, S)
  | [.loc l], S => match S[l]? with
    | some (.lst xs) => some (.tup xs, S)
    | some (.rol xs) => some (.tup xs, S)
    | _ => none
  | _, _ => none
theorem callTup (hK : X.K = g.K) : CallR X (.type "tuple") (rVs g tupP) := by
  intro pins s σ H xs us Q I r h
  obtain ⟨μ, vs, S, z, S', rs, rv, e, k⟩ := h
  unfold tupP at e
  split at e
  · cases e
    obtain ⟨x, rfl, rx⟩ := rv.one
    cases rx with
    | tup h1 r1 => exact call_tuple_of pins s σ H _ us Q I r ⟨_, _, rfl, .inr ⟨by rw [hK]; exact h1, k μ _ H .refl .refl rs (.tup h1 r1)⟩⟩
  · split at e
    · rename_i e1
      cases e
      obtain ⟨x, rfl, rx⟩ := rv.one
      cases rx with
      | loc h1 =>
        obtain ⟨ws, q1, r1⟩ := rs.lst h1 e1
        exact call_tuple_of pins s σ H _ us Q I r ⟨_, _, rfl, .inl ⟨.inl (.inl q1), fun p hp => k μ _ _ .refl (.upd (.none hp)) (rs.laid hp) (.newT hp r1)⟩⟩
    · rename_i e1
      cases e
      obtain ⟨x, rfl, rx⟩ := rv.one
      cases rx with
      | loc h1 =>
        obtain ⟨ws, q1, r1⟩ := rs.obj _ _ _ h1 e1
        exact call_tuple_of pins s σ H _ us Q I r ⟨_, ws, rfl, .inl ⟨by rw [hK]; exact q1.sq, fun p hp => k μ _ _ .refl (.upd (.none hp)) (rs.laid hp) (.newT hp r1)⟩⟩
    · cases e
  · cases e
/-- list(x), x a list, a tuple or a dict -/
def lstP : AOp
  | [.tup xs], S => some (.loc S.length, S ++ [.lst xs])
  | [.loc l], S => match S[l]? with
    | some (.lst xs) => some (.loc S.length, S ++ [.lst xs])
    | some (.rol xs) => some (.loc S.length, S ++ [.lst xs])
    | some (.dic kvs) => some (.loc S.length, S ++ [.lst (kvs.map (·.1))])
    | _ => none
  | _, _ => none
theorem Rkv.keys {K : PySem.W.Frag} {μ : List Addr} {H : Hp} : ∀ {xs : List (PV × PV)} {vs : List (Key × V)}, Rkv K μ H xs vs → Rps K μ H (xs.map (·.1)) (vs.map fun kv => kV kv.1)
  | _, _, .nil => .nil
  | _, _, .cons hk _ r => .cons (by cases hk; exact .int _; exact .str _) (Rkv.keys r)
theorem callLst (hK : X.K = g.K) (hc : X.calm = true) : CallR X (.type "list") (rVs g lstP) := by
  intro pins s σ H xs us Q I r h
  obtain ⟨μ, vs, S, z, S', rs, rv, e, k⟩ := h
  unfold lstP at e
  split at e
  · cases e
    obtain ⟨x, rfl, rx⟩ := rv.one
    cases rx with
    | tup h1 r1 => exact call_list_of pins s σ H _ us Q I r ⟨_, _, rfl, .inr (by rw [hK]; exact h1), fun p hp => k _ _ _ ⟨[p], rfl⟩ (.upd (.none hp)) (rs.newL hp r1) (Rp.atEnd rs p _)⟩
  · split at e
    · rename_i e1
      cases e
      obtain ⟨x, rfl, rx⟩ := rv.one
      cases rx with
      | loc h1 =>
        obtain ⟨ws, q1, r1⟩ := rs.lst h1 e1
        exact call_list_of pins s σ H _ us Q I r ⟨_, _, rfl, .inl (.inl (.inl q1)), fun p hp => k _ _ _ ⟨[p], rfl⟩ (.upd (.none hp)) (rs.newL hp r1) (Rp.atEnd rs p _)⟩
    · rename_i e1
      cases e
      obtain ⟨x, rfl, rx⟩ := rv.one
      cases rx with
      | loc h1 =>
        obtain ⟨ws, q1, r1⟩ := rs.obj _ _ _ h1 e1
        exact call_list_of pins s σ H _ us Q I r ⟨_, ws, rfl, .inl (by rw [hK]; exact q1.sq), fun p hp => k _ _ _ ⟨[p], rfl⟩ (.upd (.none hp)) (rs.newL hp r1) (Rp.atEnd rs p _)⟩
    · rename_i e1
      cases e
      obtain ⟨x, rfl, rx⟩ := rv.one
      cases rx with
      | loc h1 =>
        obtain ⟨ws, q1, r1⟩ := rs.dic h1 e1
        exact call_list_dK hc pins s σ H _ us Q I r ⟨_, ws, rfl, q1, fun p hp => k _ _ _ ⟨[p], rfl⟩ (.upd (.none hp)) (rs.newL hp r1.keys) (Rp.atEnd rs p _)⟩
    · cases e
  · cases e

/-! ### isinstance -/
def tyP (S : Store) : PV → Option String
  | .non => some "NoneType"
  | .bl _ => some "bool"
  | .int _ => some "int"
  | .str _ => some "str"
  | .tup _ => some "tuple"
  | .loc l => match S[l]? with
    | some (.lst _) => some "list"
    | some (.dic _) => some "dict"
    | _ => none
/-- the answer for built-in types -/
def isB (t : String) (cs : List String) : Bool := cs.any fun c => t == c || (t == "bool" && c == "int")
def eIs (cs : List String) (a : Env' → Store → R PV) : Env' → Store → R PV := fun ρ S => (a ρ S).bind fun v S1 => match tyP S1 v with
  | some t => .ok (.bl (isB t cs)) S1
  | none => .bad
theorem tyV_of (hK : X.K = g.K) {μ : List Addr} {S : Store} {H : Hp} {v : PV} {x : V} {t : String} (rs : RS g μ S H) (r : Rp g.K μ H v x) (e : tyP S v = some t) : TyX X.K H x (.type t) := by
  cases r with
  | non => cases e; exact .base .non
  | bl b => cases e; exact .base (.bl b)
  | int i => cases e; exact .base (.int i)
  | str s => cases e; exact .base (.str _)
  | tup h r =>
    cases e
    rcases h with (h | ⟨o, h⟩) | ⟨o, its, n, hk, hc, _⟩
    · exact .base (.tup h)
    · exact .fTuple h
    · exact .kTuple (by rw [hK]; exact hk) hc
  | loc h =>
    simp only [tyP] at e
    split at e
    · rename_i e1
      cases e
      obtain ⟨ws, q1, r1⟩ := rs.lst h e1
      exact .base (.lst q1)
    · rename_i e1
      cases e
      obtain ⟨ws, q1, r1⟩ := rs.dic h e1
      exact .base (.dK q1)
    · cases e
/-- the type names that occur -/
def knownT (c : String) : Bool := ["str", "int", "tuple", "list", "dict", "bool"].contains c
theorem kit_known (K : PySem.W.Frag) {t c : String} (ht : t ∈ ["NoneType", "bool", "int", "str", "tuple", "list", "dict"]) (hc : c ∈ ["str", "int", "tuple", "list", "dict", "bool"]) : PySem.W.kitOne K (.type t) (.type c) = some (t == c || (t == "bool" && c == "int")) := by
  have all : (["NoneType", "bool", "int", "str", "tuple", "list", "dict"].all fun t => ["str", "int", "tuple", "list", "dict", "bool"].all fun c => decide (kitB t c = some (t == c || (t == "bool" && c == "int")))) = true := by decide +kernel
  have h1 := List.all_eq_true.mp all t ht
  have h2 := List.all_eq_true.mp h1 c hc
  exact kit_ty (of_decide_eq_true h2)
theorem tyP_known {S : Store} {v : PV} {t : String} (e : tyP S v = some t) : t ∈ ["NoneType", "bool", "int", "str", "tuple", "list", "dict"] := by
  cases v <;> simp only [tyP] at e
  case loc l =>
    split at e <;> first | (cases e; decide) | cases e
  all_goals (cases e; decide)
/-- isinstance(a, T) -/
theorem se_is1 {T' : Str} {pt pi : Pos} (T : String) (hK : X.K = g.K) (hT : T ∈ ["str", "int", "tuple", "list", "dict", "bool"]) (gi : Gl X "isinstance") (mi : X.mg "isinstance" = none) (gT : Gl X T') (mT : X.mg T' = none) (bT : bootBuiltins T' = some (.type T)) (nT : T' ≠ "__name__")
    (ha : SE X g W a fa) (hdT : (T' == ("__debug__" : Str)) = false := by decide)
    (he : starEach [a, .Name T' pt] X.env = (false, eval a X.env) :: starEach [.Name T' pt] X.env := by rfl) (hpl : (backTo pos (starEach [.Name T' pt] X.env)).any (·.1) = false := by rfl) :
    SE X g W (.Call (.Name "isinstance" pi) [a, .Name T' pt] [] pos) (eIs [T] fa) :=
  PEimp (pe_callB call_isi gi mi PyProof.Rows.boot_isinstance (pa_cons ha (pa_cons (pe_bltn (v := .ty T) gT mT bT rfl nT hdT) pa_nil) he) (by decide) (by decide) he hpl) fun σ H Q h => by
    refine one h fun μ v S x H2 rs rv q => ?_
    split at q
    · rename_i t e
      refine ⟨x, .ty T, .type t, .type T, _, rfl, .ty T, tyV_of hK rs rv e, kit_known _ (tyP_known e) hT, ?_⟩
      have := Post.here q rs (.bl _)
      unfold isB at this
      simpa using this
    · exact q.elim
/-- isinstance(a, (T, U)) -/
theorem se_is2 {T' U' : Str} {k : Nat} {pt pu pi pp : Pos} (T U : String) (hK : X.K = g.K) (hT : T ∈ ["str", "int", "tuple", "list", "dict", "bool"]) (hU : U ∈ ["str", "int", "tuple", "list", "dict", "bool"]) (gi : Gl X "isinstance") (mi : X.mg "isinstance" = none)
    (gT : Gl X T') (mT : X.mg T' = none) (bT : bootBuiltins T' = some (.type T)) (nT : T' ≠ "__name__") (gU : Gl X U') (mU : X.mg U' = none) (bU : bootBuiltins U' = some (.type U)) (nU : U' ≠ "__name__")
    (ha : SE X g W a fa) (hdT : (T' == ("__debug__" : Str)) = false := by decide) (hdU : (U' == ("__debug__" : Str)) = false := by decide)
    (he : starEach [a, .Tuple [.Name T' pt, .Name U' pu] k pp] X.env = (false, eval a X.env) :: starEach [.Tuple [.Name T' pt, .Name U' pu] k pp] X.env := by rfl) (hpl : (backTo pos (starEach [.Tuple [.Name T' pt, .Name U' pu] k pp] X.env)).any (·.1) = false := by rfl) :
    SE X g W (.Call (.Name "isinstance" pi) [a, .Tuple [.Name T' pt, .Name U' pu] k pp] [] pos) (eIs [T, U] fa) :=
  PEimp (pe_callB call_isiT gi mi PyProof.Rows.boot_isinstance (pa_cons ha (pa_cons (pe_tup (pa_cons (pe_bltn (v := .ty T) gT mT bT rfl nT hdT) (pa_cons (pe_bltn (v := .ty U) gU mU bU rfl nU hdU) pa_nil))) pa_nil) he) (by decide) (by decide) he hpl) fun σ H Q h => by
    refine one h fun μ v S x H2 rs rv q => ?_
    refine ⟨by show 2 ≤ sizeLine; rw [line_eq]; decide, fun p hp => ?_⟩
    split at q
    · rename_i t e
      have hl := RS.laid (o := .tup [.ty T, .ty U]) rs hp
      have ty : TyX X.K (upd H2 p (.tup [.ty T, .ty U])) x (.type t) := tyV_of hK hl (rv.mono .refl (.upd (.none hp))) e
      refine ⟨x, p, [.ty T, .ty U], .type t, [.type T, .type U], isB t [T, U], rfl, upd_same, .cons (.ty T) (.cons (.ty U) .nil), ty, ?_, q μ _ _ .refl (.upd (.none hp)) hl (.bl _)⟩
      have k1 := kit_known X.K (tyP_known e) hT
      have k2 := kit_known X.K (tyP_known e) hU
      unfold PySem.W.kitAny
      rw [k1]
      unfold isB
      simp only [List.any_cons, List.any_nil, Bool.or_false]
      cases (t == T || (t == "bool" && T == "int")) with
      | true => rfl
      | false =>
        simp only [Bool.false_or]
        unfold PySem.W.kitAny
        rw [k2]
        cases (t == U || (t == "bool" && U == "int")) <;> rfl
    · exact q.elim

/-! ### a def of the text, called -/
abbrev Oracle := Nat → List PV → Store → R PV
def spO (g : G) (c : Oracle) (i n : Nat) : Sp := fun vs H Q E => vs.length = n ∧ ∃ μ S xs, RS g μ S H ∧ Rps g.K μ H xs vs ∧ Post g (fun e _ _ H' => E (g.cv e) none H') μ H (Rp g.K) (c i xs S) Q
/-- the i-th def, known by the name x, with n parameters of which the last have the defaults dv -/
def FnF (P : Program) (w : World) (K : PySem.W.Frag) (mg : Str → Option Value) (base : Heap) (g : G) (c : Oracle) (k i : Nat) (x : Str) (n : Nat) (dv : List PV) : Prop :=
  ∃ (f : Addr) (fd : FuncData) (ps : List Str) (ds : List Value) (dvs : List V), ps.length = n ∧ mg x = some (.ref f) ∧ PySem.W.keepIn K (.ref f) = true ∧ Binds K fd ps ds ∧ Vals dvs ds ∧ (∀ μ H, Rps K μ H dv dvs) ∧ FnOk P w K mg base (CX P w) k f fd ps (spO g c i n)
def eCall (c : Oracle) (i n : Nat) (dv : List PV) (a : Env' → Store → R (List PV)) : Env' → Store → R PV := fun ρ S => (a ρ S).bind fun vs S1 => if vs.length + dv.length = n then c i (vs ++ dv) S1 else .bad
variable {cc : Oracle} {k i n : Nat} {dv : List PV}
theorem se_call (F : FnF X.prog X.w X.K X.mg X.base g cc k i x n dv) (hK : X.K = g.K) (hr : Room k X.A) (tk : Takes X W) (hg : Gl X x) (ha : SA X g W (a :: es) fs) (hdb : (x == ("__debug__" : Str)) = false := by decide)
    (he : starEach (a :: es) X.env = (false, eval a X.env) :: starEach es X.env := by rfl) (hpl : (backTo pos (starEach es X.env)).any (·.1) = false := by rfl) : SE X g W (.Call (.Name x p) (a :: es) [] pos) (eCall cc i n dv fs) := by
  obtain ⟨f, fd, ps, ds, dvs, hps, hm, hk, hb, hd, hdv, ok⟩ := F
  refine PEimp (pe_callSD (E := WE W) ok hr hg hm hk hb hd (fun σ => passAt tk σ) ha hdb he hpl) fun σ H Q h => aOne h fun μ vs S xs H2 rs rv q => ?_
  split at q
  · rename_i hl
    have r2 := rv.append (hK ▸ hdv μ H2)
    exact ⟨by rw [← r2.length, List.length_append]; exact hl, μ, S, vs ++ dv, rs, r2, q⟩
  · exact q.elim
theorem se_call0 (F : FnF X.prog X.w X.K X.mg X.base g cc k i x n dv) (hK : X.K = g.K) (hr : Room k X.A) (tk : Takes X W) (hg : Gl X x) (hdb : (x == ("__debug__" : Str)) = false := by decide) : SE X g W (.Call (.Name x p) [] [] pos) (eCall cc i n dv eNil) := by
  obtain ⟨f, fd, ps, ds, dvs, hps, hm, hk, hb, hd, hdv, ok⟩ := F
  refine ⟨fun pins s σ H Q I h => ?_⟩
  refine wpAny_Call_Name_kw (ld_glob I hg hm ?_ hdb)
  refine PySem.W.callWith_K0 I.kIn hk (run_fnSD (us := []) (E := WE W) ok hr hb hd (passAt tk σ) I .nil ?_)
  obtain ⟨μ, ρ, S, re, rs, q⟩ := h
  have q2 : PostE g W σ μ H (if 0 + dv.length = n then cc i ([] ++ dv) S else .bad) Q := q
  split at q2
  · rename_i hl
    have r2 : Rps g.K μ H ([] ++ dv) ([] ++ dvs) := hK ▸ hdv μ H
    exact ⟨by rw [← r2.length, List.length_append]; exact hl, μ, S, _, rs, r2, q2⟩
  · exact q2.elim
end
end Ev


/-! Ev: statements. -/
namespace Ev
open PySem PySem.Spec PyProof.Rows L2

inductive Fl where
  | nx (ρ : Env') | rt (v : PV) | bk (ρ : Env') | ct (ρ : Env')
inductive RO where
  | ok (f : Fl) (S : Store) | exc (c : Nat) (ρ : Env') (S : Store) | bad
def bindE {α : Type} (r : R α) (ρ : Env') (k : α → Store → RO) : RO := match r with
  | .ok a S => k a S
  | .exc c S => .exc c ρ S
  | .bad => .bad
abbrev SF := Env' → Store → RO
def PostS (g : G) (W : WX) (μ : List Addr) (H : Hp) (r : RO) (D : Ends) : Prop := match r with
  | .ok (.nx ρ') S' => ∀ μ' σ' H', Pre μ μ' → Le g.K H H' → RS g μ' S' H' → RE g.K μ' H' ρ' σ' → D.nx σ' H'
  | .ok (.bk ρ') S' => ∀ μ' σ' H', Pre μ μ' → Le g.K H H' → RS g μ' S' H' → RE g.K μ' H' ρ' σ' → D.bk σ' H'
  | .ok (.ct ρ') S' => ∀ μ' σ' H', Pre μ μ' → Le g.K H H' → RS g μ' S' H' → RE g.K μ' H' ρ' σ' → D.ct σ' H'
  | .ok (.rt v) S' => ∀ μ' x H', Pre μ μ' → Le g.K H H' → RS g μ' S' H' → Rp g.K μ' H' v x → D.rt x H'
  | .exc c ρ' S' => ∀ μ' σ' H', Pre μ μ' → Le g.K H H' → RS g μ' S' H' → RE g.K μ' H' ρ' σ' → W (g.cv c) none σ' H'
  | .bad => False
section
variable {g : G} {W : WX} {μ : List Addr} {H : Hp} {σ : St} {ρ : Env'}
theorem PostS.later {μ1 : List Addr} {H1 : Hp} {r : RO} {D : Ends} (p : PostS g W μ H r D) (hp : Pre μ μ1) (hl : Le g.K H H1) : PostS g W μ1 H1 r D := by
  cases r with
  | ok f S' => cases f <;> exact fun μ' x H' a b c d => p μ' x H' (hp.trans a) (hl.trans b) c d
  | exc c ρ' S' => exact fun μ' x H' a b c d => p μ' x H' (hp.trans a) (hl.trans b) c d
  | bad => exact p
theorem PostS.bindE {α β : Type} {rel : List Addr → Hp → α → β → Prop} {r : R α} {k : α → Store → RO} {D : Ends} (p : PostS g W μ H (Ev.bindE r ρ k) D) (re : RE g.K μ H ρ σ) :
    Post g (wx g W σ) μ H rel r (fun x H1 => ∃ μ1 a S1, Pre μ μ1 ∧ Le g.K H H1 ∧ RS g μ1 S1 H1 ∧ rel μ1 H1 a x ∧ PostS g W μ1 H1 (k a S1) D) := by
  cases r with
  | ok a S' => exact fun μ' x H' hp hl rs rl => ⟨μ', a, S', hp, hl, rs, rl, PostS.later (r := k a S') p hp hl⟩
  | exc c S' => exact fun μ' H' hp hl rs => p μ' σ H' hp hl rs (re.mono hp hl)
  | bad => exact p
theorem PostS.nx {S : Store} {D : Ends} (p : PostS g W μ H (.ok (.nx ρ) S) D) (rs : RS g μ S H) (re : RE g.K μ H ρ σ) : D.nx σ H := p μ σ H .refl .refl rs re
theorem PostS.rt {S : Store} {v : PV} {x : V} {D : Ends} (p : PostS g W μ H (.ok (.rt v) S) D) (rs : RS g μ S H) (r : Rp g.K μ H v x) : D.rt x H := p μ x H .refl .refl rs r
/-- the same outcome under another wish of what follows -/
theorem PostS.imp {r : RO} {D D' : Ends} (p : PostS g W μ H r D) (h1 : ∀ σ H, D.nx σ H → D'.nx σ H) (h2 : ∀ x H, D.rt x H → D'.rt x H) (h3 : ∀ σ H, D.bk σ H → D'.bk σ H) (h4 : ∀ σ H, D.ct σ H → D'.ct σ H) : PostS g W μ H r D' := by
  cases r with
  | ok f S' =>
    cases f with
    | nx ρ => exact fun μ' x H' a b c d => h1 _ _ (p μ' x H' a b c d)
    | rt v => exact fun μ' x H' a b c d => h2 _ _ (p μ' x H' a b c d)
    | bk ρ => exact fun μ' x H' a b c d => h3 _ _ (p μ' x H' a b c d)
    | ct ρ => exact fun μ' x H' a b c d => h4 _ _ (p μ' x H' a b c d)
  | exc c ρ' S' => exact p
  | bad => exact p
end
def tSv (g : G) (W : WX) (f : SF) : TS := fun D σ H => ∃ μ ρ S, RE g.K μ H ρ σ ∧ RS g μ S H ∧ PostS g W μ H (f ρ S) D
abbrev SS (X : Cx) (g : G) (W : WX) (st : Stmt) (f : SF) : Prop := PS X st (tSv g W f)
abbrev SSs (X : Cx) (g : G) (W : WX) (sts : List Stmt) (f : SF) : Prop := PSs X sts (tSv g W f)

abbrev EF := Env' → Store → R PV
abbrev BF := Env' → Store → R Bool
/-! ### small statements -/
def sNil : SF := fun ρ S => .ok (.nx ρ) S
def sSeq (a b : SF) : SF := fun ρ S => match a ρ S with
  | .ok (.nx ρ') S' => b ρ' S'
  | r => r
def sExpr (a : EF) : SF := fun ρ S => bindE (a ρ S) ρ fun _ S1 => .ok (.nx ρ) S1
def sRet (a : EF) : SF := fun ρ S => bindE (a ρ S) ρ fun v S1 => .ok (.rt v) S1
def sRetN : SF := fun _ S => .ok (.rt .non) S
def sIf (t : BF) (a b : SF) : SF := fun ρ S => bindE (t ρ S) ρ fun c S1 => if c then a ρ S1 else b ρ S1
def sBrk : SF := fun ρ S => .ok (.bk ρ) S
def sCnt : SF := fun ρ S => .ok (.ct ρ) S
def sRaise (c : Nat) : SF := fun ρ S => .exc c ρ S
section
variable {X : Cx} {g : G} {W : WX} {pos : Pos} {a b c : Expr} {fa fb fc : EF} {st : Stmt} {sts sts2 : List Stmt} {f f2 : SF}
theorem ss_nil : SSs X g W [] sNil := PSsimp pss_nil fun D σ H ⟨μ, ρ, S, re, rs, p⟩ => PostS.nx p rs re
theorem ss_cons (h1 : SS X g W st f) (h2 : SSs X g W sts f2) : SSs X g W (st :: sts) (sSeq f f2) :=
  PSsimp (pss_cons h1 h2) fun D σ H ⟨μ, ρ, S, re, rs, p⟩ => by
    refine ⟨μ, ρ, S, re, rs, ?_⟩
    unfold sSeq at p
    cases e : f ρ S with
    | ok fl S' =>
      rw [e] at p
      cases fl with
      | nx ρ' => exact fun μ' σ' H' hp hl rs' re' => ⟨μ', ρ', S', re', rs', PostS.later (r := f2 ρ' S') p hp hl⟩
      | rt v => exact p
      | bk ρ => exact p
      | ct ρ => exact p
    | exc c ρ' S' => rw [e] at p; exact p
    | bad => rw [e] at p; exact p
theorem ss_one (h1 : SS X g W st f) : SSs X g W [st] f := pss_one h1
theorem ss_pass : SS X g W (.Pass pos) sNil := PSimp ps_pass fun D σ H ⟨μ, ρ, S, re, rs, p⟩ => PostS.nx p rs re
theorem ss_brk : SS X g W (.Break pos) sBrk := PSimp ps_break fun D σ H ⟨μ, ρ, S, re, rs, p⟩ => p μ σ H .refl .refl rs re
theorem ss_cnt : SS X g W (.Continue pos) sCnt := PSimp ps_continue fun D σ H ⟨μ, ρ, S, re, rs, p⟩ => p μ σ H .refl .refl rs re
theorem ss_expr (ha : SE X g W a fa) (hs : swapsWith a none pos.line X.env = pure false := by rfl) : SS X g W (.Expr a pos) (sExpr fa) :=
  PSimp (ps_expr ha hs) fun D σ H ⟨μ, ρ, S, re, rs, p⟩ => ⟨μ, ρ, S, re, rs, (PostS.bindE p re).imp fun x H1 ⟨μ1, v, S1, hp, hl, rs1, rv, q⟩ => PostS.nx q rs1 (re.mono hp hl)⟩
theorem ss_ret (ha : SE X g W a fa) : SS X g W (.Return (some a) pos) (sRet fa) :=
  PSimp (ps_ret ha) fun D σ H ⟨μ, ρ, S, re, rs, p⟩ => ⟨μ, ρ, S, re, rs, (PostS.bindE p re).imp fun x H1 ⟨μ1, v, S1, hp, hl, rs1, rv, q⟩ => PostS.rt q rs1 rv⟩
theorem ss_retN : SS X g W (.Return none pos) sRetN := PSimp ps_retN fun D σ H ⟨μ, ρ, S, re, rs, p⟩ => PostS.rt p rs .non
theorem ss_if {t : Expr} {ft : BF} (ht : ST X g W t ft) (h1 : SSs X g W sts f) (h2 : SSs X g W sts2 f2) : SS X g W (.If t sts sts2 pos) (sIf ft f f2) :=
  PSimp (ps_if ht h1 h2) fun D σ H ⟨μ, ρ, S, re, rs, p⟩ => ⟨μ, ρ, S, re, rs, (PostS.bindE p re).imp fun x H1 ⟨μ1, v, S1, hp, hl, rs1, rv, q⟩ => by
    subst rv
    cases v with
    | true => exact ⟨μ1, ρ, S1, re.mono hp hl, rs1, q⟩
    | false => exact ⟨μ1, ρ, S1, re.mono hp hl, rs1, q⟩⟩
/-- raise X('..') -/
theorem ss_raise {x m : Str} {j k : Nat} {C : Addr} {p1 p2 pc : Pos} {bmB : List Value} {B newId initId : String} (hc : X.calm = true) (tk : Takes X W) (F : ExcBaseFacts B newId initId bmB) (hcv : g.cv k = .ref C)
    (q : PySem.W.excIn X.K C bmB newId = true) (gC : X.mg x = some (.ref C)) (kC : PySem.W.keepIn X.K (.ref C) = true) (r : Raises X (.ref C)) (hg : Gl X x) (hdb : (x == ("__debug__" : Str)) = false := by decide) :
    SS X g W (.Raise (some (.Call (.Name x p1) [.Constant (.str m) j p2] [] pc)) none pos) (sRaise k) :=
  PSimp (ps_raise hc tk (pmk_own F q gC kC r hg hdb)) fun D σ H ⟨μ, ρ, S, re, rs, p⟩ => by
    have := p μ σ H .refl .refl rs re
    rw [hcv] at this
    exact this
/-! ### targets -/
abbrev Tg := PV → Env' → Store → Option (Env' × Store)
def tgv (g : G) (t : Tg) : TG := fun v σ H Q => ∃ μ ρ S w ρ' S', RE g.K μ H ρ σ ∧ RS g μ S H ∧ Rp g.K μ H w v ∧ t w ρ S = some (ρ', S') ∧ ∀ μ' σ' H', Pre μ μ' → Le g.K H H' → RS g μ' S' H' → RE g.K μ' H' ρ' σ' → Q σ' H'
abbrev SG (X : Cx) (g : G) (tg : Expr) (t : Tg) : Prop := PG X tg (tgv g t)
theorem PGimp {tg : Expr} {t t' : TG} (h : PG X tg t) (i : ∀ v σ H Q, t' v σ H Q → t v σ H Q) : PG X tg t' := ⟨fun pins s σ H v u Q I r q => h.run pins s σ H v u Q I r (i _ _ _ _ q)⟩
def tgN (i : Nat) : Tg := fun v ρ S => some (ρ.set i (some v), S)
theorem sg_name {i : Nat} {x : Str} (hN : X.N.Nodup) (hi : X.N[i]? = some x) (hx : Loc X.env.scope x) (hf : X.fn x = true ∨ X.env.scope.names.lookup x = some .local := by first | exact .inl rfl | exact .inr rfl | assumption) : SG X g (.Name x pos) (tgN i) :=
  PGimp (pg_name hN hi hx hf) fun v σ H Q ⟨μ, ρ, S, w, ρ', S', re, rs, rv, e, k⟩ => by
    cases e
    exact k μ _ H .refl .refl rs (re.set rv i)
/-- several targets -/
abbrev Tgs := List PV → Env' → Store → Option (Env' × Store)
def tgvs (g : G) (t : Tgs) : TGs := fun vs σ H Q => ∃ μ ρ S ws ρ' S', RE g.K μ H ρ σ ∧ RS g μ S H ∧ Rps g.K μ H ws vs ∧ t ws ρ S = some (ρ', S') ∧ ∀ μ' σ' H', Pre μ μ' → Le g.K H H' → RS g μ' S' H' → RE g.K μ' H' ρ' σ' → Q σ' H'
abbrev SGs (X : Cx) (g : G) (tg : List Expr) (t : Tgs) : Prop := PGs X tg (tgvs g t)
theorem PGsimp {tg : List Expr} {t t' : TGs} (h : PGs X tg t) (i : ∀ v σ H Q, t' v σ H Q → t v σ H Q) : PGs X tg t' := ⟨fun pins s σ H v u Q I r q => h.run pins s σ H v u Q I r (i _ _ _ _ q)⟩
def tgNil : Tgs := fun vs ρ S => match vs with
  | [] => some (ρ, S)
  | _ => none
def tgCons (t : Tg) (u : Tgs) : Tgs := fun vs ρ S => match vs with
  | v :: r => match t v ρ S with
    | some (ρ', S') => u r ρ' S'
    | none => none
  | [] => none
theorem sg_nil : SGs X g [] tgNil := PGsimp pgs_nil fun v σ H Q ⟨μ, ρ, S, w, ρ', S', re, rs, rv, e, k⟩ => by
  unfold tgNil at e
  split at e
  · cases e; cases rv; exact ⟨rfl, k μ _ H .refl .refl rs re⟩
  · cases e
theorem sg_cons {es : List Expr} {t : Tg} {u : Tgs} (h1 : SG X g a t) (h2 : SGs X g es u) (hs : (assignEach (a :: es) X.env).map (·.2) = assign a X.env :: (assignEach es X.env).map (·.2) := by rfl) : SGs X g (a :: es) (tgCons t u) :=
  PGsimp (pgs_cons h1 h2 hs) fun v σ H Q ⟨μ, ρ, S, w, ρ', S', re, rs, rv, e, k⟩ => by
    unfold tgCons at e
    split at e
    · rename_i w1 wr
      split at e
      · rename_i ρ1 S1 e1
        cases rv with
        | cons r1 r2 =>
          refine ⟨_, _, rfl, μ, ρ, S, w1, ρ1, S1, re, rs, r1, e1, fun μ' σ' H' hp hl rs' re' => ?_⟩
          exact ⟨μ', ρ1, S1, wr, ρ', S', re', rs', r2.mono hp hl, e, fun μ2 σ2 H2 hp2 hl2 rs2 re2 => k μ2 σ2 H2 (hp.trans hp2) (hl.trans hl2) rs2 re2⟩
      · cases e
    · cases e
def tgT (n : Nat) (u : Tgs) : Tg := fun v ρ S => match v with
  | .tup xs => if xs.length = n then u xs ρ S else none
  | _ => none
theorem sg_tup {es : List Expr} {k n : Nat} {u : Tgs} (hK : X.K = g.K) (hc : X.calm = true) (h : SGs X g es u) (hn : (assignEach es X.env).length = n := by rfl) (hst : (assignEach es X.env).findIdx? (·.1) = none := by rfl) : SG X g (.Tuple es k pos) (tgT n u) :=
  PGimp (pg_tup hc h hn hst) fun v σ H Q ⟨μ, ρ, S, w, ρ', S', re, rs, rv, e, k⟩ => by
    unfold tgT at e
    split at e
    · split at e
      · rename_i hl
        cases rv with
        | tup h1 r1 => exact ⟨_, _, rfl, by rw [hK]; exact h1, by rw [← r1.length]; exact hl, μ, ρ, S, _, ρ', S', re, rs, r1, e, k⟩
      · cases e
    · cases e
/-- o[i] = v -/
def hasP (k : PV) (kvs : List (PV × PV)) : Bool := kvs.any fun kv => eqF kv.1 k
def putP (kvs : List (PV × PV)) (k v : PV) : List (PV × PV) := if hasP k kvs then kvs.map fun kv => if eqF kv.1 k then (kv.1, v) else kv else kvs ++ [(k, v)]
def valP (kvs : List (PV × PV)) (k : PV) : Option PV := (kvs.find? fun kv => eqF kv.1 k).map (·.2)
def keyP : PV → Bool
  | .int _ => true
  | .str _ => true
  | _ => false
def setP (o i v : PV) (S : Store) : Option Store := match o with
  | .loc l => match S[l]? with
    | some (.lst xs) => match i with
      | .int k => match ixN xs.length k with
        | some j => some (S.set l (.lst (xs.set j v)))
        | none => none
      | _ => none
    | some (.dic kvs) => if keyP i ∧ kvs.length < LINE then some (S.set l (.dic (putP kvs i v))) else none
    | _ => none
  | _ => none
def tgS (o i : EF) : Tg := fun v ρ S => match o ρ S with
  | .ok ov S1 => match i ρ S1 with
    | .ok iv S2 => match setP ov iv v S2 with
      | some S3 => some (ρ, S3)
      | none => none
    | _ => none
  | _ => none
def rSet (g : G) : V → V → V → Hp → (Hp → Prop) → Prop := fun o i v H Q => ∃ μ S ow iw w S', RS g μ S H ∧ Rp g.K μ H ow o ∧ Rp g.K μ H iw i ∧ Rp g.K μ H w v ∧ setP ow iw w S = some S' ∧ ∀ μ' H', Pre μ μ' → Le g.K H H' → RS g μ' S' H' → Q H'
end
/-! ### dicts -/
section
variable {g : G} {μ : List Addr} {S : Store} {H : Hp}
theorem Rk.dec {a b : PV} {x y : Key} (h : Rk a x) (k : Rk b y) : eqF a b = decide (x = y) := by
  cases h <;> cases k
  · rename_i i j
    rw [key_ll]; rfl
  · rw [key_lr]; rfl
  · rw [key_rl]; rfl
  · rename_i s t
    rw [key_rr]
    show (s == t) = _
    by_cases e : s = t
    · subst e; simp
    · have h2 : ¬ ((⟨s.toArray⟩ : Str) = ⟨t.toArray⟩) := fun z => e (by have := congrArg (fun s : Str => s.cps.toList) z; simpa using this)
      rw [decide_eq_false h2]; simp [e]
theorem Rk.of {v : PV} {x : V} (r : Rp g.K μ H v x) (k : keyP v = true) : ∃ y, Rk v y ∧ x = kV y := by
  cases r with
  | int i => exact ⟨_, .int i, rfl⟩
  | str s => exact ⟨_, .str s, rfl⟩
  | non => cases k
  | bl b => cases k
  | tup h r => cases k
  | loc h => cases k
theorem Rkv.has {k : PV} {y : Key} (hk : Rk k y) : ∀ {kvs : List (PV × PV)} {ks : List (Key × V)}, Rkv g.K μ H kvs ks → hasP k kvs = ks.any fun kv => decide (kv.1 = y)
  | _, _, .nil => rfl
  | _, _, .cons h _ r => by
    have ih := Rkv.has hk r
    unfold hasP at ih ⊢
    rw [List.any_cons, List.any_cons, ih, h.dec hk]
theorem Rkv.repl {k : PV} {y : Key} {v : PV} {x : V} (hk : Rk k y) (rv : Rp g.K μ H v x) : ∀ {kvs : List (PV × PV)} {ks : List (Key × V)}, Rkv g.K μ H kvs ks →
    Rkv g.K μ H (kvs.map fun kv => if eqF kv.1 k then (kv.1, v) else kv) (ks.map fun kv => if kv.1 = y then (kv.1, x) else kv)
  | _, _, .nil => .nil
  | _, _, .cons (k := k') (k' := y') h r0 r => by
    rw [List.map_cons, List.map_cons]
    have e := h.dec hk
    by_cases q : y' = y
    · rw [if_pos q, if_pos (by rw [e]; exact decide_eq_true q)]
      exact .cons h rv (Rkv.repl hk rv r)
    · rw [if_neg q, if_neg (by rw [e, decide_eq_false q]; decide)]
      exact .cons h r0 (Rkv.repl hk rv r)
theorem Rkv.snoc {k : PV} {y : Key} {v : PV} {x : V} (hk : Rk k y) (rv : Rp g.K μ H v x) : ∀ {kvs : List (PV × PV)} {ks : List (Key × V)}, Rkv g.K μ H kvs ks → Rkv g.K μ H (kvs ++ [(k, v)]) (ks ++ [(y, x)])
  | _, _, .nil => .cons hk rv .nil
  | _, _, .cons h r0 r => .cons h r0 (Rkv.snoc hk rv r)
theorem Rkv.put {k : PV} {y : Key} {v : PV} {x : V} (hk : Rk k y) (rv : Rp g.K μ H v x) {kvs : List (PV × PV)} {ks : List (Key × V)} (r : Rkv g.K μ H kvs ks) : Rkv g.K μ H (putP kvs k v) (L2.putK ks y x) := by
  unfold putP L2.putK
  rw [Rkv.has hk r]
  split
  · exact r.repl hk rv
  · exact r.snoc hk rv
theorem Rkv.val {k : PV} {y : Key} (hk : Rk k y) : ∀ {kvs : List (PV × PV)} {ks : List (Key × V)}, Rkv g.K μ H kvs ks → (∀ v, valP kvs k = some v → ∃ x, valV ks y = some x ∧ Rp g.K μ H v x) ∧ (valP kvs k = none → valV ks y = none)
  | _, _, .nil => ⟨fun _ e => (by cases e), fun _ => rfl⟩
  | _, _, .cons (k := k') (k' := y') h r0 r => by
    have ih := Rkv.val hk r
    have e := h.dec hk
    by_cases q : y' = y
    · have e2 : eqF k' k = true := by rw [e]; exact decide_eq_true q
      refine ⟨fun v hv => ?_, fun hv => ?_⟩
      · unfold valP at hv
        rw [List.find?_cons_of_pos (by exact e2)] at hv
        cases hv
        exact ⟨_, valV_pos q, r0⟩
      · unfold valP at hv
        rw [List.find?_cons_of_pos (by exact e2)] at hv
        cases hv
    · have e2 : ¬ (eqF k' k = true) := by rw [e, decide_eq_false q]; decide
      refine ⟨fun v hv => ?_, fun hv => ?_⟩
      · unfold valP at hv
        rw [List.find?_cons_of_neg (by exact e2)] at hv
        obtain ⟨x, a, b⟩ := ih.1 v hv
        exact ⟨x, by rw [valV_neg q]; exact a, b⟩
      · unfold valP at hv
        rw [List.find?_cons_of_neg (by exact e2)] at hv
        rw [valV_neg q]
        exact ih.2 hv
theorem Rkv.mono' {μ' : List Addr} {H' : Hp} {kvs : List (PV × PV)} {ks : List (Key × V)} (r : Rkv g.K μ H kvs ks) (p : Pre μ μ') (l : Le g.K H H') : Rkv g.K μ' H' kvs ks := r.mono p l
end
section
variable {X : Cx} {g : G} {W : WX} {pos : Pos} {a b c o i : Expr} {fa fb fc fo fi : EF}
theorem PSet.or {r r' : TSet} (h : PSet X r) (h' : PSet X r') : PSet X (fun o i v H Q => r o i v H Q ∨ r' o i v H Q) := by
  intro pins s σ H o i v ov iv u Q I r1 r2 r3 q
  rcases q with q | q
  · exact h pins s σ H o i v ov iv u Q I r1 r2 r3 q
  · exact h' pins s σ H o i v ov iv u Q I r1 r2 r3 q
theorem setV (hu : X.A.units + 1 < cLine) : PSet X (rSet g) := by
  intro pins s σ H o i v ov iv u Q I ro ri rv h
  obtain ⟨μ, S, ow, iw, w, S', rs, r1, r2, r3, e, k⟩ := h
  unfold setP at e
  split at e
  · split at e
    · rename_i l xs e1
      split at e
      · rename_i kk
        split at e
        · rename_i j e2
          cases e
          cases r1 with
          | loc h1 =>
            cases r2
            obtain ⟨vs, q1, rr⟩ := rs.lst h1 e1
            refine set_list pins s σ H _ _ v ov iv u Q I ro ri rv ⟨_, vs, _, j, rfl, rfl, q1, by rw [← rr.length]; exact e2, ?_⟩
            have w := Wr.lst q1
            exact k μ _ .refl (.upd w) (rs.put h1 e1 rfl rfl ⟨_, upd_same, (rr.set j r3).mono .refl (.upd w)⟩)
        · cases e
      · cases e
    · rename_i l kvs e1
      split at e
      · rename_i hc
        cases e
        cases r1 with
        | loc h1 =>
          obtain ⟨ks, q1, rr⟩ := rs.dic h1 e1
          obtain ⟨y, hk, rfl⟩ := Rk.of r2 hc.1
          have w := Wr.dK q1
          refine set_dict hu pins s σ H _ _ v ov iv u Q I ro ri rv ⟨_, _, rfl, DPut.k q1 (by rw [← rr.length, line_eq]; exact hc.2), ?_⟩
          exact k μ _ .refl (.upd w) (rs.put h1 e1 rfl rfl ⟨_, upd_same, (rr.put hk r3).mono .refl (.upd w)⟩)
      · cases e
    · cases e
  · cases e
theorem sg_sub (hu : X.A.units + 1 < cLine) (ho : SE X g W o fo) (hi : SE X g W i fi)
    (ha : ∀ v, assign (.Subscript o i pos) X.env v = (do
      let ov ← holding [v] (eval o X.env)
      let iv ← holding [v, ov] (eval i X.env)
      standAt pos
      holding [v, ov, iv] (setItem ov iv v)
      release [v, ov, iv] []) := by intro _; rfl) : SG X g (.Subscript o i pos) (tgS fo fi) :=
  PGimp (pg_sub ho hi (setV (g := g) hu) ha) fun v σ H Q ⟨μ, ρ, S, w, ρ', S', re, rs, rv, e, k⟩ => by
    unfold tgS at e
    split at e
    · rename_i ov S1 e1
      split at e
      · rename_i iv S2 e2
        split at e
        · rename_i S3 e3
          cases e
          refine ⟨μ, ρ, S, re, rs, ?_⟩
          rw [e1]
          intro μ1 x H1 p1 l1 rs1 r1
          refine ⟨μ1, ρ, S1, re.mono p1 l1, rs1, ?_⟩
          rw [e2]
          intro μ2 y H2 p2 l2 rs2 r2
          exact ⟨μ2, S2, ov, iv, w, _, rs2, r1.mono p2 l2, r2, (rv.mono p1 l1).mono p2 l2, e3, fun μ3 H3 p3 l3 rs3 => k μ3 σ H3 ((p1.trans p2).trans p3) ((l1.trans l2).trans l3) rs3 (((re.mono p1 l1).mono p2 l2).mono p3 l3)⟩
        · cases e
      · cases e
    · cases e
/-! ### assignments -/
def sAsg (a : EF) (t : Tg) : SF := fun ρ S => bindE (a ρ S) ρ fun v S1 => match t v ρ S1 with
  | some (ρ', S') => .ok (.nx ρ') S'
  | none => .bad
theorem asgP {t : Tg} {D : Ends} {σ : St} {H : Hp} (h : tSv g W (sAsg fa t) D σ H) : tEv g W fa σ H fun x H1 => tgv g t x σ H1 D.nx := by
  obtain ⟨μ, ρ, S, re, rs, p⟩ := h
  refine ⟨μ, ρ, S, re, rs, (PostS.bindE p re).imp fun x H1 ⟨μ1, v, S1, hp, hl, rs1, rv, q⟩ => ?_⟩
  split at q
  · rename_i ρ' S' e
    exact ⟨μ1, ρ, S1, v, ρ', S', re.mono hp hl, rs1, rv, e, q⟩
  · exact q.elim
theorem ss_asg {tg : Expr} {t : Tg} (ha : SE X g W a fa) (ht : SG X g tg t) (hs : swapsWithSole [tg] a pos.line X.env = pure false := by rfl) (hw : swappedStores [tg] a X.env = pure none := by rfl)
    (h1 : (assignEach [tg] X.env).map (·.2) = [assign tg X.env] := by rfl) : SS X g W (.Assign [tg] a pos) (sAsg fa t) :=
  PSimp (ps_asg ha ht hs hw h1) fun D σ H h => asgP h
theorem ss_set {k : Nat} {x : Str} {pos' : Pos} (hN : X.N.Nodup) (hi : X.N[k]? = some x) (hx : Loc X.env.scope x) (ha : SE X g W a fa) (hs : swapsWith a (some (.Name x pos')) pos.line X.env = pure false := by rfl) (hf : X.fn x = true ∨ X.env.scope.names.lookup x = some .local := by first | exact .inl rfl | exact .inr rfl | assumption) :
    SS X g W (.Assign [.Name x pos'] a pos) (sAsg fa (tgN k)) :=
  PSimp (ps_set hN hi hx ha hs hf) fun D σ H h => by
    obtain ⟨μ, ρ, S, re, rs, p⟩ := h
    exact ⟨μ, ρ, S, re, rs, (PostS.bindE p re).imp fun x H1 ⟨μ1, v, S1, hp, hl, rs1, rv, q⟩ => q μ1 _ H1 .refl .refl rs1 ((re.mono hp hl).set rv k)⟩
/-- a, b = x, y of plain local names -/
def sPar (i j : Nat) (a : Env' → Store → R (List PV)) : SF := fun ρ S => bindE (a ρ S) ρ fun vs S1 => match vs with
  | [v, w] => .ok (.nx ((ρ.set i (some v)).set j (some w))) S1
  | _ => .bad
theorem ss_par {i j : Nat} {x y : Str} {fs : Env' → Store → R (List PV)} {px py pt : Pos} {kt k2 pt2} (hc : X.calm = true) (hN : X.N.Nodup) (hi : X.N[i]? = some x) (hj : X.N[j]? = some y) (hij : i ≠ j)
    (hx : X.env.scope.names.lookup x = some .local) (hy : X.env.scope.names.lookup y = some .local) (ha : SA X g W [a, b] fs)
    (hw : swappedStores [.Tuple [.Name x px, .Name y py] kt pt] (.Tuple [a, b] k2 pt2) X.env = pure (some [x, y]))
    (hs : swapsWithSole [.Tuple [.Name x px, .Name y py] kt pt] (.Tuple [a, b] k2 pt2) pos.line X.env = pure false := by rfl) :
    SS X g W (.Assign [.Tuple [.Name x px, .Name y py] kt pt] (.Tuple [a, b] k2 pt2) pos) (sPar i j fs) :=
  PSimp (ps_par hc hN hi hj hij hx hy ha hw hs) fun D σ H h => by
    obtain ⟨μ, ρ, S, re, rs, p⟩ := h
    refine ⟨μ, ρ, S, re, rs, (PostS.bindE p re).imp fun x H1 ⟨μ1, v, S1, hp, hl, rs1, rv, q⟩ => ?_⟩
    split at q
    · obtain ⟨x1, x2, rfl, r1, r2⟩ := rv.two
      exact ⟨_, _, rfl, q μ1 _ H1 .refl .refl rs1 (((re.mono hp hl).set r1 i).set r2 j)⟩
    · exact q.elim
/-- x op= e -/
def sAug (i : Nat) (op : BOp) (a : EF) : SF := fun ρ S => match ρ[i]? with
  | some (some v) => bindE (a ρ S) ρ fun w S1 => match op v w S1 with
      | some (z, S2) => .ok (.nx (ρ.set i (some z))) S2
      | none => .bad
  | _ => .bad
theorem ss_aug {k : Nat} {x : Str} {op : Operator} {f : BOp} {pos' : Pos} (hN : X.N.Nodup) (hi : X.N[k]? = some x) (hx : Loc X.env.scope x) (ha : SE X g W a fa) (ho : OpR X (inplaceOp op) (rV2 g f)) (hf : X.fn x = true ∨ X.env.scope.names.lookup x = some .local := by first | exact .inl rfl | exact .inr rfl | assumption) :
    SS X g W (.AugAssign (.Name x pos') op a pos) (sAug k f fa) :=
  PSimp (ps_aug hN hi hx ha ho hf) fun D σ H h => by
    obtain ⟨μ, ρ, S, re, rs, p⟩ := h
    unfold sAug at p
    split at p
    · rename_i v e
      obtain ⟨x1, e1, r1⟩ := re.at_ k v e
      refine ⟨x1, e1, μ, ρ, S, re, rs, (PostS.bindE p re).imp fun y H1 ⟨μ1, w, S1, hp, hl, rs1, rv, q⟩ => ?_⟩
      split at q
      · rename_i z S2 e2
        refine ⟨μ1, v, w, S1, z, S2, rs1, r1.mono hp hl, rv, e2, fun μ' x' H' hp' hl' rs' r' => ?_⟩
        exact q μ' _ H' hp' hl' rs' (((re.mono hp hl).mono hp' hl').set r' k)
      · exact q.elim
    · exact p.elim
def iaddP : BOp
  | .int a, .int b, S => some (.int (a + b), S)
  | .str a, .str b, S => if a.length + b.length ≤ LINE then some (.str (a ++ b), S) else none
  | .loc l, .loc k, S => match S[l]?, S[k]? with
    | some (.lst a), some (.lst b) => if a.length + b.length ≤ LINE then some (.loc l, S.set l (.lst (a ++ b))) else none
    | _, _ => none
  | _, _, _ => none
theorem opIadd : OpR X (inplaceOp .Add) (rV2 g iaddP) := by
  intro pins s σ H x y v u Q I rx ry h
  obtain ⟨μ, a, b, S, z, S', rs, ra, rb, e, k⟩ := h
  unfold iaddP at e
  split at e
  · cases ra; cases rb; cases e
    exact iop_add pins s σ H _ _ v u Q I rx ry ⟨_, _, rfl, rfl, k μ _ H .refl .refl rs (.int _)⟩
  · split at e
    · rename_i hl
      cases ra; cases rb; cases e
      refine iop_add_str pins s σ H _ _ v u Q I rx ry ⟨_, _, rfl, rfl, by rw [slen, slen, line_eq]; exact hl, ?_⟩
      rw [sapp]
      exact k μ _ H .refl .refl rs (.str _)
    · cases e
  · split at e
    · split at e
      · rename_i hl
        rename_i e1 e2
        cases ra with
        | loc h1 =>
          cases rb with
          | loc h2 =>
            cases e
            obtain ⟨vs, q1, r1⟩ := rs.lst h1 e1
            obtain ⟨ws, q2, r2⟩ := rs.lst h2 e2
            have w := Wr.lst q1
            refine iop_ext pins s σ H _ _ v u Q I rx ry ⟨_, _, _, _, rfl, rfl, q1, q2, by rw [← r1.length, ← r2.length, line_eq]; exact hl, ?_⟩
            exact k μ _ _ .refl (.upd w) (rs.put h1 e1 rfl rfl ⟨_, upd_same, (r1.append r2).mono .refl (.upd w)⟩) (.loc h1)
      · cases e
    · cases e
  · cases e
end
end Ev


/-! Ev: loops, try. -/
namespace Ev
open PySem PySem.Spec PyProof.Rows L2

/-! ### what is walked -/
inductive Src where
  | seq (xs : List PV) | rng (lo : Int) (n : Nat) | ref (l : Nat) | enm (l : Nat) | zip (l k : Nat)
def listAt (S : Store) (l : Nat) : Option (List PV) := match S[l]? with
  | some (.lst xs) => some xs
  | some (.rol xs) => some xs
  | _ => none
/-- none: no answer; some none: the end -/
def nth (s : Src) (i : Nat) (S : Store) : Option (Option PV) := match s with
  | .seq xs => some xs[i]?
  | .rng lo n => some (if i < n then some (.int (lo + i)) else none)
  | .ref l => match listAt S l with
    | some xs => some xs[i]?
    | none => none
  | .enm l => match listAt S l with
    | some xs => match xs[i]? with
      | some v => some (some (.tup [.int (i : Nat), v]))
      | none => some none
    | none => none
  | .zip l k => match listAt S l, listAt S k with
    | some xs, some ys => match xs[i]?, ys[i]? with
      | some x, some y => some (some (.tup [x, y]))
      | _, _ => some none
    | _, _ => none
def fuelOf (s : Src) (S : Store) : Nat := match s with
  | .seq xs => xs.length + 1
  | .rng _ n => n + 1
  | .ref l => ((listAt S l).getD []).length + 65537
  | .enm l => ((listAt S l).getD []).length + 65537
  | .zip l _ => ((listAt S l).getD []).length + 65537
section
variable {g : G} {μ : List Addr} {S : Store} {H : Hp}
theorem RS.at_ {l : Nat} {a : Addr} {xs : List PV} (rs : RS g μ S H) (h1 : μ[l]? = some a) (e : listAt S l = some xs) : ∃ vs, SqL g.K H a vs ∧ Rps g.K μ H xs vs := by
  unfold listAt at e
  split at e
  · rename_i e1
    cases e
    obtain ⟨vs, q, r⟩ := rs.lst h1 e1
    exact ⟨vs, .inl (.inl q), r⟩
  · rename_i e1
    cases e
    obtain ⟨vs, q, r⟩ := rs.obj _ _ _ h1 e1
    exact ⟨vs, q.sq, r⟩
  · cases e
end
/-- an iterator that hands on what src tells -/
def ItOk (g : G) (μ0 : List Addr) (H0 : Hp) (src : Src) (J : It) : Prop := ∀ (μ : List Addr) (S : Store) (H : Hp) (i : Nat), Pre μ0 μ → Le g.K H0 H → RS g μ S H →
  (nth src i S = some none → J.stop i H) ∧ ∀ v, nth src i S = some (some v) → J.go i H ∧ ∀ x H', J.yld i H x H' → Le g.K H H' ∧ RS g μ S H' ∧ Rp g.K μ H' v x
section
variable {g : G} {μ0 : List Addr} {H0 : Hp}
theorem itTup {a : Addr} {vs : List V} {xs : List PV} (h : SqT g.K H0 a vs) (r : Rps g.K μ0 H0 xs vs) : ItOk g μ0 H0 (.seq xs) (Itt g.K a) := by
  intro μ S H i hp hl rs
  have h' := hl _ _ h
  have r' := r.mono hp hl
  refine ⟨fun e => ?_, fun v e => ?_⟩
  · have e2 : xs[i]? = none := Option.some.inj e
    exact ⟨vs, h', List.getElem?_eq_none_iff.mp (r'.none_of e2)⟩
  · have e2 : xs[i]? = some v := Option.some.inj e
    obtain ⟨y, e3, ry⟩ := r'.get e2
    refine ⟨⟨vs, y, h', e3⟩, fun x H' q => ?_⟩
    obtain ⟨q1, q2⟩ := q
    subst q1
    have q3 := q2 vs h'
    rw [e3] at q3
    cases q3
    exact ⟨.refl, rs, ry⟩
theorem itStr {s : List Nat} : ItOk g μ0 H0 (.seq (s.map fun c => .str [c])) (Its ⟨s.toArray⟩) := by
  intro μ S H i hp hl rs
  refine ⟨fun e => ?_, fun v e => ?_⟩
  · have e2 : (s.map fun c => PV.str [c])[i]? = none := Option.some.inj e
    have e3 := List.getElem?_eq_none_iff.mp e2
    rw [List.length_map] at e3
    show s.toArray.size ≤ i
    simpa using e3
  · have e2 : (s.map fun c => PV.str [c])[i]? = some v := Option.some.inj e
    rw [List.getElem?_map] at e2
    cases e3 : s[i]? with
    | none => rw [e3] at e2; cases e2
    | some c =>
      rw [e3] at e2
      cases e2
      have hi : i < s.length := (List.getElem?_eq_some_iff.mp e3).1
      refine ⟨by show i < s.toArray.size; simpa using hi, fun x H' q => ?_⟩
      obtain ⟨q1, c', q2, q3⟩ := q
      subst q1
      have q4 : s.toArray[i]? = some c' := q2
      rw [List.getElem?_toArray, e3] at q4
      cases q4
      rw [q3]
      exact ⟨.refl, rs, .str [c]⟩
theorem itRng {lo : Int} {n : Nat} : ItOk g μ0 H0 (.rng lo n) (Itr lo n) := by
  intro μ S H i hp hl rs
  refine ⟨fun e => ?_, fun v e => ?_⟩
  · have e2 := Option.some.inj e
    split at e2
    · cases e2
    · rename_i h; exact Nat.le_of_not_lt h
  · have e2 := Option.some.inj e
    split at e2
    · rename_i h
      cases e2
      refine ⟨h, fun x H' q => ?_⟩
      obtain ⟨q1, q2⟩ := q
      subst q1; subst q2
      exact ⟨.refl, rs, .int _⟩
    · cases e2
theorem itRef {l : Nat} {a : Addr} (h : μ0[l]? = some a) : ItOk g μ0 H0 (.ref l) (Itl g.K a) := by
  intro μ S H i hp hl rs
  have h' := hp.get h
  refine ⟨fun e => ?_, fun v e => ?_⟩ <;> (unfold nth at e; dsimp only at e; split at e)
  · rename_i xs e1
    obtain ⟨vs, q, r⟩ := rs.at_ h' e1
    exact ⟨vs, q, List.getElem?_eq_none_iff.mp (r.none_of (Option.some.inj e))⟩
  · cases e
  · rename_i xs e1
    obtain ⟨vs, q, r⟩ := rs.at_ h' e1
    obtain ⟨y, e3, ry⟩ := r.get (Option.some.inj e)
    refine ⟨⟨vs, y, q, e3⟩, fun x H' q' => ?_⟩
    obtain ⟨q1, q2⟩ := q'
    subst q1
    have q3 := q2 vs q
    rw [e3] at q3
    cases q3
    exact ⟨.refl, rs, ry⟩
  · cases e
theorem itEnm {l : Nat} {a : Addr} (h : μ0[l]? = some a) : ItOk g μ0 H0 (.enm l) (Ite g.K a) := by
  intro μ S H i hp hl rs
  have h' := hp.get h
  refine ⟨fun e => ?_, fun v e => ?_⟩ <;> (unfold nth at e; dsimp only at e; split at e)
  · rename_i xs e1
    obtain ⟨vs, q, r⟩ := rs.at_ h' e1
    split at e
    · cases e
    · rename_i e2
      exact ⟨vs, q, List.getElem?_eq_none_iff.mp (r.none_of e2)⟩
  · cases e
  · rename_i xs e1
    obtain ⟨vs, q, r⟩ := rs.at_ h' e1
    split at e
    · rename_i w e2
      obtain ⟨y, e3, ry⟩ := r.get e2
      cases e
      refine ⟨⟨vs, y, q, e3⟩, fun x H' q' => ?_⟩
      obtain ⟨T, y', rfl, hT, rfl, q2⟩ := q'
      have q3 := q2 vs q
      rw [e3] at q3
      cases q3
      exact ⟨.upd (.none hT), rs.laid hT, .newT hT (.cons (.int _) (.cons ry .nil))⟩
    · cases e
  · cases e
theorem itZip {l k : Nat} {a b : Addr} (h : μ0[l]? = some a) (h2 : μ0[k]? = some b) : ItOk g μ0 H0 (.zip l k) (Itz g.K a b) := by
  intro μ S H i hp hl rs
  have h' := hp.get h
  have h2' := hp.get h2
  refine ⟨fun e => ?_, fun v e => ?_⟩ <;> (unfold nth at e; dsimp only at e; split at e)
  · rename_i xs ys e1 e1'
    obtain ⟨vs, q, r⟩ := rs.at_ h' e1
    obtain ⟨ws, q', r'⟩ := rs.at_ h2' e1'
    refine ⟨vs, ws, q, q', ?_⟩
    split at e
    · cases e
    · rename_i hno
      cases e2 : xs[i]? with
      | none => exact .inl (List.getElem?_eq_none_iff.mp (r.none_of e2))
      | some x =>
        cases e3 : ys[i]? with
        | none => exact .inr (List.getElem?_eq_none_iff.mp (r'.none_of e3))
        | some y => exact (hno x y e2 e3).elim
  · cases e
  · rename_i xs ys e1 e1'
    obtain ⟨vs, q, r⟩ := rs.at_ h' e1
    obtain ⟨ws, q', r'⟩ := rs.at_ h2' e1'
    split at e
    · rename_i x y e2 e3
      obtain ⟨x', f2, rx⟩ := r.get e2
      obtain ⟨y', f3, ry⟩ := r'.get e3
      cases e
      refine ⟨⟨vs, ws, x', y', q, q', f2, f3⟩, fun z H' q'' => ?_⟩
      obtain ⟨T, x2, y2, rfl, hT, rfl, k1, k2⟩ := q''
      have z1 := k1 vs q
      have z2 := k2 ws q'
      rw [f2] at z1
      rw [f3] at z2
      cases z1; cases z2
      exact ⟨.upd (.none hT), rs.laid hT, .newT hT (.cons rx (.cons ry .nil))⟩
    · cases e
  · cases e
end

abbrev IF := Env' → Store → R Src
def tEvI (g : G) (W : WX) (f : IF) : TI := fun σ H R => ∃ μ ρ S, RE g.K μ H ρ σ ∧ RS g μ S H ∧ Post g (wx g W σ) μ H (ItOk g) (f ρ S) R
abbrev SI (X : Cx) (g : G) (W : WX) (tg e : Expr) (f : IF) : Prop := PI X tg e (tEvI g W f)
theorem PIimp {X : Cx} {tg e : Expr} {t t' : TI} (h : PI X tg e t) (i : ∀ σ H Q, t' σ H Q → t σ H Q) : PI X tg e t' := ⟨fun pins s σ H R I q => h.run pins s σ H R I (i _ _ _ q)⟩

section
variable {X : Cx} {g : G} {W : WX} {pos : Pos} {a b c tg : Expr} {fa fb fc : EF}
/-- a list, a tuple or a text, whatever comes -/
def iAny (K : PySem.W.Frag) (te : TE) : TI := fun σ H R => te σ H fun x H1 => (∃ a, x = .ref a ∧ (∃ xs, SqL K H1 a xs) ∧ R (Itl K a) H1) ∨ (∃ a, x = .ref a ∧ (∃ xs, SqT K H1 a xs) ∧ R (Itt K a) H1) ∨ ∃ s, x = .str s ∧ R (Its s) H1
theorem oneIt {pins : List (Addr × Obj)} {σ : St} {H1 : Hp} {R : It → Hp → Prop} {s1 : Shared} {ob : Obj} {J : It} {tn : Nat → Heap → Prop} (I : Inv X pins σ H1 s1)
    (T : Turn X.prog X.w X.K tg J [s1.heap.objs.size] s1.heap.objs.size tn) (t0 : tn 0 (s1.heap.push ob)) (q : R J H1) : PIE X pins σ tg R (.ref s1.heap.objs.size) { s1 with heap := s1.heap.push ob } := by
  have kept := I.kept (t' := s1.toks) (h' := s1.heap.push ob) (fun _ _ e => Heap.get?_push_of_some _ e)
  refine ⟨_, _, _, _, _, rfl, kept, T, t0, ?_, q⟩
  intro b hb
  rw [List.mem_singleton] at hb
  rw [hb]
  exact I.fpOk (Nat.le_refl _) (I.hok.fresh (Nat.le_refl _))
theorem pi_any {te : TE} (h : PE X a te) : PI X tg a (iAny X.K te) := by
  constructor
  intro pins s σ H R I q
  refine thn (h.run pins s σ H _ I q) ?_
  rintro v s1 ⟨x, H1, I1, rx, alt⟩
  rcases alt with ⟨p, rfl, ⟨xs, hx⟩, q1⟩ | ⟨p, rfl, ⟨xs, hx⟩, q1⟩ | ⟨z, rfl, q1⟩
  · cases rx
    have ⟨its, rv, hp, _⟩ := I1.list hx
    exact wpAny_pyIter_list hp.isList (oneIt I1 (turn_list p _) ⟨_, Heap.get?_push_size _ rfl, rfl, rfl⟩ q1)
  · cases rx
    have ⟨its, rv, hp, _⟩ := I1.tuple hx
    have hp' : s1.heap.IsTuple p its.toArray := hp
    exact wpAny_pyIter_tuple hp' (oneIt I1 (turn_tuple p _) ⟨_, Heap.get?_push_size _ rfl, rfl, rfl⟩ q1)
  · obtain ⟨t, rfl⟩ := rx
    by_cases asc : z.cps.all (· < 128) = true
    · exact wpAny_pyIter_ascii asc (oneIt I1 (turn_str _ z t "str_ascii_iterator" (.inl rfl)) ⟨_, Heap.get?_push_size _ rfl, rfl, rfl⟩ q1)
    · have wide : z.cps.all (· < 128) = false := by cases h : z.cps.all (· < 128) with | true => exact absurd h asc | false => rfl
      exact wpAny_pyIter_wide wide (oneIt I1 (turn_str _ z t "str_iterator" (.inr rfl)) ⟨_, Heap.get?_push_size _ rfl, rfl, rfl⟩ q1)
/-- for .. in a -/
def srcP (v : PV) (S : Store) : Option Src := match v with
  | .tup xs => some (.seq xs)
  | .str s => some (.seq (s.map fun c => .str [c]))
  | .loc l => match listAt S l with
    | some _ => some (.ref l)
    | none => none
  | _ => none
def iOf (a : EF) : IF := fun ρ S => (a ρ S).bind fun v S1 => match srcP v S1 with
  | some s => .ok s S1
  | none => .bad
theorem si_any (hK : X.K = g.K) (ha : SE X g W a fa) : SI X g W tg a (iOf fa) :=
  PIimp (pi_any ha) fun σ H R ⟨μ, ρ, S, re, rs, p⟩ => by
    refine ⟨μ, ρ, S, re, rs, (Post.bind p).imp fun x H1 ⟨μ1, v, S1, p1, l1, rs1, rv, q⟩ => ?_⟩
    unfold srcP at q
    split at q
    · rename_i s e
      rw [hK]
      split at e
      · cases e
        cases rv with
        | tup h1 r1 => exact .inr (.inl ⟨_, rfl, ⟨_, h1⟩, Post.here q rs1 (itTup h1 r1)⟩)
      · cases e
        cases rv
        exact .inr (.inr ⟨_, rfl, Post.here q rs1 itStr⟩)
      · split at e
        · rename_i e1
          cases e
          cases rv with
          | loc h1 =>
            obtain ⟨vs, q1, _⟩ := rs1.at_ h1 e1
            exact .inl ⟨_, rfl, ⟨vs, q1⟩, Post.here q rs1 (itRef h1)⟩
        · cases e
      · cases e
    · exact q.elim
def small62 (i : Int) : Bool := decide (-(2 ^ 62) ≤ i ∧ i < 2 ^ 62)
abbrev AF := Env' → Store → R (List PV)
def iRg1 (a : AF) : IF := fun ρ S => (a ρ S).bind fun vs S1 => match vs with
  | [.int j] => if small62 j then .ok (.rng 0 j.toNat) S1 else .bad
  | _ => .bad
def iRg2 (a : AF) : IF := fun ρ S => (a ρ S).bind fun vs S1 => match vs with
  | [.int i, .int j] => if small62 i && small62 j then .ok (.rng i (j - i).toNat) S1 else .bad
  | _ => .bad
def iEn (a : AF) : IF := fun ρ S => (a ρ S).bind fun vs S1 => match vs with
  | [.loc l] => match listAt S1 l with
    | some _ => .ok (.enm l) S1
    | none => .bad
  | _ => .bad
/-- pairs of two rows -/
def zipW : List PV → List PV → List PV
  | x :: xs, y :: ys => .tup [x, y] :: zipW xs ys
  | _, _ => []
def iZp (a : AF) : IF := fun ρ S => (a ρ S).bind fun vs S1 => match vs with
  | [.loc l, .loc k] => match listAt S1 l, listAt S1 k with
    | some _, some _ => .ok (.zip l k) S1
    | _, _ => .bad
  | [.tup xs, .tup ys] => .ok (.seq (zipW xs ys)) S1
  | _ => .bad
variable {fs : AF}
theorem small62_of {i : Int} (h : small62 i = true) : -(2 ^ 62) ≤ i ∧ i < 2 ^ 62 := of_decide_eq_true h
theorem iOne {k : List PV → Store → R Src} {σ : St} {H : Hp} {Q : It → Hp → Prop} {r : List V → Hp → Prop} (h : tEvI g W (fun ρ S => (fs ρ S).bind fun v S1 => k v S1) σ H Q)
    (hr : ∀ μ vs S xs H2, RS g μ S H2 → Rps g.K μ H2 vs xs → Post g (wx g W σ) μ H2 (ItOk g) (k vs S) Q → r xs H2) : tEvA g W fs σ H fun x H1 => r x H1 := by
  obtain ⟨μ, ρ, S, re, rs, p⟩ := h
  exact ⟨μ, ρ, S, re, rs, (Post.bind p).imp fun x H1 ⟨μ1, v, S1, p1, l1, rs1, rv, q⟩ => hr μ1 v S1 x H1 rs1 rv q⟩
theorem si_rg1 {p : Pos} (hg : Gl X "range") (hm : X.mg "range" = none) (ha : SA X g W [a] fs) (hs : starEach [a] X.env = [(false, eval a X.env)] := by rfl) : SI X g W tg (.Call (.Name "range" p) [a] [] pos) (iRg1 fs) :=
  PIimp (pi_range1 hg hm ha hs) fun σ H R h => iOne h fun μ vs S xs H2 rs rv q => by
    split at q
    · split at q
      · rename_i hj
        obtain ⟨x, rfl, rx⟩ := rv.one
        cases rx
        obtain ⟨h1, h2⟩ := small62_of hj
        exact ⟨_, rfl, h1, h2, Post.here q rs itRng⟩
      · exact q.elim
    · exact q.elim
theorem si_rg2 {p : Pos} (hg : Gl X "range") (hm : X.mg "range" = none) (ha : SA X g W [a, b] fs) (hs : starEach [a, b] X.env = [(false, eval a X.env), (false, eval b X.env)] := by rfl) (hs2 : starEach [b] X.env = [(false, eval b X.env)] := by rfl) : SI X g W tg (.Call (.Name "range" p) [a, b] [] pos) (iRg2 fs) :=
  PIimp (pi_range2 hg hm ha hs hs2) fun σ H R h => iOne h fun μ vs S xs H2 rs rv q => by
    split at q
    · split at q
      · rename_i hj
        rw [Bool.and_eq_true] at hj
        obtain ⟨x, y, rfl, rx, ry⟩ := rv.two
        cases rx; cases ry
        obtain ⟨h1, h2⟩ := small62_of hj.1
        obtain ⟨h3, h4⟩ := small62_of hj.2
        exact ⟨_, _, rfl, ⟨h1, h2, h3, h4⟩, Post.here q rs itRng⟩
      · exact q.elim
    · exact q.elim
theorem si_enm {p tpos : Pos} {elts : List Expr} {kk : Nat} (hK : X.K = g.K) (hg : Gl X "enumerate") (hm : X.mg "enumerate" = none) (ha : SA X g W [a] fs) (hs : starEach [a] X.env = [(false, eval a X.env)] := by rfl) :
    SI X g W (.Tuple elts kk tpos) (.Call (.Name "enumerate" p) [a] [] pos) (iEn fs) :=
  PIimp (pi_enum hg hm ha hs) fun σ H R h => iOne h fun μ vs S xs H2 rs rv q => by
    split at q
    · split at q
      · rename_i e1
        obtain ⟨x, rfl, rx⟩ := rv.one
        cases rx with
        | loc h1 =>
          obtain ⟨ws, q1, _⟩ := rs.at_ h1 e1
          rw [hK]
          exact ⟨_, _, rfl, q1, Post.here q rs (itEnm h1)⟩
      · exact q.elim
    · exact q.elim
theorem zipW_get : ∀ (xs ys : List PV) (i : Nat), (zipW xs ys)[i]? = match xs[i]?, ys[i]? with
    | some x, some y => some (.tup [x, y])
    | _, _ => none
  | [], ys, i => by simp [zipW]
  | x :: xs, [], i => by
    simp only [zipW, List.getElem?_nil]
    split
    · rename_i h; cases h
    · rfl
  | x :: xs, y :: ys, 0 => by simp [zipW]
  | x :: xs, y :: ys, i + 1 => by
    simp only [zipW, List.getElem?_cons_succ]
    exact zipW_get xs ys i
theorem itZipT {μ0 : List Addr} {H0 : Hp} {a b : Addr} {vs ws : List V} {xs ys : List PV} (h : SqT g.K H0 a vs) (r : Rps g.K μ0 H0 xs vs) (h2 : SqT g.K H0 b ws) (r2 : Rps g.K μ0 H0 ys ws) : ItOk g μ0 H0 (.seq (zipW xs ys)) (RZ.ItzT g.K a b) := by
  intro μ S H i hp hl rs
  have h' := hl _ _ h
  have r' := r.mono hp hl
  have h2' := hl _ _ h2
  have r2' := r2.mono hp hl
  refine ⟨fun e => ?_, fun v e => ?_⟩ <;> (have e2 := Option.some.inj e; rw [zipW_get] at e2)
  · refine ⟨vs, ws, h', h2', ?_⟩
    cases e3 : xs[i]? with
    | none => exact .inl (List.getElem?_eq_none_iff.mp (r'.none_of e3))
    | some x =>
      cases e4 : ys[i]? with
      | none => exact .inr (List.getElem?_eq_none_iff.mp (r2'.none_of e4))
      | some y => rw [e3, e4] at e2; cases e2
  · split at e2
    · rename_i x y e3 e4
      cases e2
      obtain ⟨x', f2, rx⟩ := r'.get e3
      obtain ⟨y', f3, ry⟩ := r2'.get e4
      refine ⟨⟨vs, ws, x', y', h', h2', f2, f3⟩, fun z H' q'' => ?_⟩
      obtain ⟨T, x2, y2, rfl, hT, rfl, k1, k2⟩ := q''
      have z1 := k1 vs h'
      have z2 := k2 ws h2'
      rw [f2] at z1
      rw [f3] at z2
      cases z1; cases z2
      exact ⟨.upd (.none hT), rs.laid hT, .newT hT (.cons rx (.cons ry .nil))⟩
    · cases e2
theorem si_zip {p tpos : Pos} {elts : List Expr} {kk : Nat} (hK : X.K = g.K) (hg : Gl X "zip") (hm : X.mg "zip" = none) (ha : SA X g W [a, b] fs)
    (hs : starEach [a, b] X.env = (false, eval a X.env) :: starEach [b] X.env := by rfl) (hpl : (backTo pos (starEach [b] X.env)).any (·.1) = false := by rfl) :
    SI X g W (.Tuple elts kk tpos) (.Call (.Name "zip" p) [a, b] [] pos) (iZp fs) :=
  PIimp (RZ.pi_zipA hg hm ha hs hpl) fun σ H R h => iOne h fun μ vs S xs H2 rs rv q => by
    rw [hK]
    split at q
    · split at q
      · rename_i e1 e2
        obtain ⟨x, y, rfl, rx, ry⟩ := rv.two
        cases rx with
        | loc h1 =>
          cases ry with
          | loc h2 =>
            obtain ⟨vs, q1, _⟩ := rs.at_ h1 e1
            obtain ⟨ws, q2, _⟩ := rs.at_ h2 e2
            exact ⟨_, _, vs, ws, rfl, .inl ⟨q1, q2, Post.here q rs (itZip h1 h2)⟩⟩
      · exact q.elim
    · obtain ⟨x, y, rfl, rx, ry⟩ := rv.two
      cases rx with
      | tup h1 r1 =>
        cases ry with
        | tup h2 r2 => exact ⟨_, _, _, _, rfl, .inr ⟨h1, h2, Post.here q rs (itZipT h1 r1 h2 r2)⟩⟩
    · exact q.elim

/-! ### for, while -/
def forL (src : Src) (t : Tg) (b : SF) : Nat → Nat → SF
  | 0, _ => fun _ _ => .bad
  | n + 1, i => fun ρ S => match nth src i S with
    | none => .bad
    | some none => .ok (.nx ρ) S
    | some (some v) => match t v ρ S with
      | none => .bad
      | some (ρ1, S1) => match b ρ1 S1 with
        | .ok (.nx ρ2) S2 => forL src t b n (i + 1) ρ2 S2
        | .ok (.ct ρ2) S2 => forL src t b n (i + 1) ρ2 S2
        | .ok (.bk ρ2) S2 => .ok (.nx ρ2) S2
        | r => r
def sFor (it : IF) (t : Tg) (b : SF) : SF := fun ρ S => bindE (it ρ S) ρ fun src S1 => forL src t b (fuelOf src S1) 0 ρ S1
theorem ss_for {iter : Expr} {body : List Stmt} {t : Tg} {f : SF} {fi : IF} (hp : PassesOwn (model X.prog X.w) X.A X.env X.xe) (hc : X.calm = true) (hi : SI X g W tg iter fi) (hg : SG X g tg t) (hb : SSs X g W body f)
    (hs : ∀ x, foldedSetIterable iter X.env x = pure x := by intro _; rfl) : SS X g W (.For tg iter body [] pos) (sFor fi t f) :=
  PSimp (ps_for hp hc hi hg hb hs) fun D σ H ⟨μ, ρ, S, re, rs, p⟩ => by
    refine ⟨μ, ρ, S, re, rs, (PostS.bindE p re).imp fun J H1 ⟨μ1, src, S1, p1, l1, rs1, rel, q⟩ => ?_⟩
    refine ⟨fun i m σ' H' => ∃ μ' ρ' S', Pre μ1 μ' ∧ Le g.K H1 H' ∧ RE g.K μ' H' ρ' σ' ∧ RS g μ' S' H' ∧ PostS g W μ' H' (forL src t f m i ρ' S') D, ⟨_, μ1, ρ, S1, .refl, .refl, re.mono p1 l1, rs1, q⟩, ?_⟩
    rintro i m σ' H' ⟨μ', ρ', S', p', l', re', rs', q'⟩
    cases m with
    | zero => exact q'.elim
    | succ m =>
      unfold forL at q'
      split at q'
      · exact q'.elim
      · rename_i e
        exact .inl ⟨(rel μ' S' H' i p' l' rs').1 e, PostS.nx q' rs' re'⟩
      · rename_i v e
        obtain ⟨go, yld⟩ := (rel μ' S' H' i p' l' rs').2 v e
        refine .inr ⟨go, _, fun σ2 H2 h => ⟨m, Nat.lt_succ_self m, h⟩, fun x H2 y => ?_⟩
        obtain ⟨l2, rs2, rv⟩ := yld x H2 y
        split at q'
        · exact q'.elim
        · rename_i ρ1 S2 e1
          refine ⟨μ', ρ', S', v, ρ1, S2, re'.mono .refl l2, rs2, rv, e1, fun μ3 σ3 H3 p3 l3 rs3 re3 => ⟨μ3, ρ1, S2, re3, rs3, ?_⟩⟩
          have q3 := PostS.later q' p3 (l2.trans l3)
          have pp := p'.trans p3
          have ll := l'.trans (l2.trans l3)
          cases eb : f ρ1 S2 with
          | ok fl S4 =>
            rw [eb] at q3
            cases fl with
            | nx ρ2 => exact fun μ4 σ4 H4 p4 l4 rs4 re4 => ⟨μ4, ρ2, S4, pp.trans p4, ll.trans l4, re4, rs4, PostS.later (r := forL src t f m (i + 1) ρ2 S4) q3 p4 l4⟩
            | rt v => exact q3
            | bk ρ2 => exact q3
            | ct ρ2 => exact fun μ4 σ4 H4 p4 l4 rs4 re4 => ⟨μ4, ρ2, S4, pp.trans p4, ll.trans l4, re4, rs4, PostS.later (r := forL src t f m (i + 1) ρ2 S4) q3 p4 l4⟩
          | exc c ρ2 S4 => rw [eb] at q3; exact q3
          | bad => rw [eb] at q3; exact q3
def whL (t : BF) (b : SF) : Nat → SF
  | 0 => fun _ _ => .bad
  | n + 1 => fun ρ S => bindE (t ρ S) ρ fun c S1 => if c then match b ρ S1 with
      | .ok (.nx ρ2) S2 => whL t b n ρ2 S2
      | .ok (.ct ρ2) S2 => whL t b n ρ2 S2
      | .ok (.bk ρ2) S2 => .ok (.nx ρ2) S2
      | r => r
    else .ok (.nx ρ) S1
theorem ss_while {body : List Stmt} {t : BF} {f : SF} (n : Nat) (hp : PassesOwn (model X.prog X.w) X.A X.env X.xe) (hc : ST X g W a t) (hb : SSs X g W body f) : SS X g W (.While a body [] pos) (whL t f n) :=
  PSimp (ps_while hp hc hb) fun D σ H ⟨μ, ρ, S, re, rs, p⟩ => by
    refine ⟨fun m σ' H' => ∃ μ' ρ' S', RE g.K μ' H' ρ' σ' ∧ RS g μ' S' H' ∧ PostS g W μ' H' (whL t f m ρ' S') D, ⟨n, μ, ρ, S, re, rs, p⟩, ?_⟩
    rintro m σ' H' ⟨μ', ρ', S', re', rs', q'⟩
    cases m with
    | zero => exact q'.elim
    | succ m =>
      unfold whL at q'
      refine ⟨μ', ρ', S', re', rs', (PostS.bindE q' re').imp fun b H1 ⟨μ1, c, S1, p1, l1, rs1, rv, q⟩ => ?_⟩
      subst rv
      have re1 := re'.mono p1 l1
      cases c with
      | false => exact PostS.nx q rs1 re1
      | true =>
        rw [if_pos rfl] at q ⊢
        refine ⟨_, fun σ2 H2 h => ⟨m, Nat.lt_succ_self m, h⟩, μ1, ρ', S1, re1, rs1, ?_⟩
        cases eb : f ρ' S1 with
        | ok fl S4 =>
          rw [eb] at q
          cases fl with
          | nx ρ2 => exact fun μ4 σ4 H4 p4 l4 rs4 re4 => ⟨μ4, ρ2, S4, re4, rs4, PostS.later (r := whL t f m ρ2 S4) q p4 l4⟩
          | rt v => exact q
          | bk ρ2 => exact q
          | ct ρ2 => exact fun μ4 σ4 H4 p4 l4 rs4 re4 => ⟨μ4, ρ2, S4, re4, rs4, PostS.later (r := whL t f m ρ2 S4) q p4 l4⟩
        | exc c ρ2 S4 => rw [eb] at q; exact q
        | bad => rw [eb] at q; exact q
end
end Ev


/-! Ev: comprehensions. -/
namespace Ev
open PySem PySem.Spec PyProof.Rows L2

abbrev WF : WX := fun _ _ _ _ => False
abbrev BX (X : Cx) (scope : Scope) (s : Shared) (H : Hp) (C : Addr) (cl : List (Str × Addr)) (fp : List Addr) : Cx := X.blk s H scope (compEnvC scope cl C X.env) fp
section
variable {X : Cx} {g : G} {W : WX} {pos : Pos} {a b c tg : Expr} {fa fb fc : EF}
theorem takes_F {X : Cx} : Takes X WF := fun u s' h => by
  obtain ⟨a, B, sI, pins, σ', H', cls, d, _, _, _, _, _, _, _, _, f⟩ := h
  exact f.elim

/-! ### targets in a block: only the block's own names are written -/
def tgc (g : G) (vs : List Nat) (t : Tg) : TG := fun v σ H Q => ∃ μ ρ S w ρ' S', RE g.K μ H ρ σ ∧ RS g μ S H ∧ Rp g.K μ H w v ∧ t w ρ S = some (ρ', S') ∧ ∀ σ', RE g.K μ H ρ' σ' → RS g μ S' H → wipe σ' vs = wipe σ vs → Q σ' H
abbrev SGc (X : Cx) (g : G) (vs : List Nat) (tg : Expr) (t : Tg) : Prop := PG X tg (tgc g vs t)
def tgcs (g : G) (vs : List Nat) (t : Tgs) : TGs := fun v σ H Q => ∃ μ ρ S w ρ' S', RE g.K μ H ρ σ ∧ RS g μ S H ∧ Rps g.K μ H w v ∧ t w ρ S = some (ρ', S') ∧ ∀ σ', RE g.K μ H ρ' σ' → RS g μ S' H → wipe σ' vs = wipe σ vs → Q σ' H
abbrev SGcs (X : Cx) (g : G) (vs : List Nat) (tg : List Expr) (t : Tgs) : Prop := PGs X tg (tgcs g vs t)
theorem wipe_none {σ : St} {i : Nat} : ∀ {vs : List Nat}, i ∈ vs → (wipe σ vs)[i]? = some none ∨ (wipe σ vs)[i]? = none
  | [], h => by cases h
  | v :: vs, h => by
    unfold wipe
    by_cases hi : v = i
    · subst hi
      by_cases hv : v < (wipe σ vs).length
      · exact .inl (List.getElem?_set_self hv)
      · exact .inr (List.getElem?_eq_none (by simpa using hv))
    · rw [List.getElem?_set_ne hi]
      rcases List.mem_cons.mp h with e | e
      · exact absurd e.symm hi
      · exact wipe_none e
theorem wipe_get {σ : St} {i : Nat} : ∀ {vs : List Nat}, i ∉ vs → (wipe σ vs)[i]? = σ[i]?
  | [], _ => rfl
  | v :: vs, h => by
    unfold wipe
    have h1 : v ≠ i := fun e => h (by simp [e])
    rw [List.getElem?_set_ne h1]
    exact wipe_get fun e => h (List.mem_cons_of_mem _ e)
theorem wipe_set {σ : St} {i : Nat} {x : Option V} {vs : List Nat} (h : i ∈ vs) : wipe (σ.set i x) vs = wipe σ vs := by
  apply List.ext_getElem?
  intro j
  by_cases hj : j ∈ vs
  · have l : (wipe (σ.set i x) vs).length = (wipe σ vs).length := by rw [wipe_length, wipe_length, List.length_set]
    rcases wipe_none (σ := σ) hj with e | e <;> rcases wipe_none (σ := σ.set i x) hj with e' | e'
    · rw [e, e']
    · rw [List.getElem?_eq_none_iff, l, ← List.getElem?_eq_none_iff] at e'
      rw [e] at e'; cases e'
    · rw [List.getElem?_eq_none_iff, ← l, ← List.getElem?_eq_none_iff] at e
      rw [e] at e'; cases e'
    · rw [e, e']
  · rw [wipe_get hj, wipe_get hj]
    have : i ≠ j := fun z => hj (z ▸ h)
    rw [List.getElem?_set_ne this]
theorem wipe_wipe {σ : St} {vs : List Nat} : wipe (wipe σ vs) vs = wipe σ vs := by
  apply List.ext_getElem?
  intro j
  by_cases hj : j ∈ vs
  · have l : (wipe (wipe σ vs) vs).length = (wipe σ vs).length := by rw [wipe_length]
    rcases wipe_none (σ := σ) hj with e | e <;> rcases wipe_none (σ := wipe σ vs) hj with e' | e'
    · rw [e, e']
    · rw [List.getElem?_eq_none_iff, l, ← List.getElem?_eq_none_iff] at e'
      rw [e] at e'; cases e'
    · rw [List.getElem?_eq_none_iff, ← l, ← List.getElem?_eq_none_iff] at e
      rw [e] at e'; cases e'
    · rw [e, e']
  · rw [wipe_get hj]
theorem sgc_name {i : Nat} {x : Str} {vs : List Nat} (hN : X.N.Nodup) (hi : X.N[i]? = some x) (hv : i ∈ vs) (hx : Loc X.env.scope x) (hf : X.fn x = true ∨ X.env.scope.names.lookup x = some .local := by first | exact .inl rfl | exact .inr rfl | assumption) : SGc X g vs (.Name x pos) (tgN i) :=
  PGimp (pg_name hN hi hx hf) fun v σ H Q ⟨μ, ρ, S, w, ρ', S', re, rs, rv, e, k⟩ => by
    cases e
    exact k _ (re.set rv i) rs (wipe_set hv)
theorem sgc_nil {vs : List Nat} : SGcs X g vs [] tgNil := PGsimp pgs_nil fun v σ H Q ⟨μ, ρ, S, w, ρ', S', re, rs, rv, e, k⟩ => by
  unfold tgNil at e
  split at e
  · cases e; cases rv; exact ⟨rfl, k _ re rs rfl⟩
  · cases e
theorem sgc_cons {es : List Expr} {t : Tg} {u : Tgs} {vs : List Nat} (h1 : SGc X g vs a t) (h2 : SGcs X g vs es u) (hs : (assignEach (a :: es) X.env).map (·.2) = assign a X.env :: (assignEach es X.env).map (·.2) := by rfl) : SGcs X g vs (a :: es) (tgCons t u) :=
  PGsimp (pgs_cons h1 h2 hs) fun v σ H Q ⟨μ, ρ, S, w, ρ', S', re, rs, rv, e, k⟩ => by
    unfold tgCons at e
    split at e
    · rename_i w1 wr
      split at e
      · rename_i ρ1 S1 e1
        cases rv with
        | cons r1 r2 =>
          refine ⟨_, _, rfl, μ, ρ, S, w1, ρ1, S1, re, rs, r1, e1, fun σ' re' rs' hw => ?_⟩
          exact ⟨μ, ρ1, S1, wr, ρ', S', re', rs', r2, e, fun σ2 re2 rs2 hw2 => k σ2 re2 rs2 (hw2.trans hw)⟩
      · cases e
    · cases e
theorem sgc_tup {es : List Expr} {k n : Nat} {u : Tgs} {vs : List Nat} (hK : X.K = g.K) (hc : X.calm = true) (h : SGcs X g vs es u) (hn : (assignEach es X.env).length = n := by rfl) (hst : (assignEach es X.env).findIdx? (·.1) = none := by rfl) : SGc X g vs (.Tuple es k pos) (tgT n u) :=
  PGimp (pg_tup hc h hn hst) fun v σ H Q ⟨μ, ρ, S, w, ρ', S', re, rs, rv, e, k⟩ => by
    unfold tgT at e
    split at e
    · split at e
      · rename_i hl
        cases rv with
        | tup h1 r1 => exact ⟨_, _, rfl, by rw [hK]; exact h1, by rw [← r1.length]; exact hl, μ, ρ, S, _, ρ', S', re, rs, r1, e, k⟩
      · cases e
    · cases e
/-- the tests of a block -/
abbrev STs (X : Cx) (g : G) (es : List Expr) (f : BF) : Prop := PTs X es (tEvB g WF f)
def bYes : BF := fun _ S => .ok true S
theorem PTsimp {e : List Expr} {t t' : TT} (h : PTs X e t) (i : ∀ σ H Q, t' σ H Q → t σ H Q) : PTs X e t' := ⟨fun pins s σ H Q I q => h.run pins s σ H Q I (i _ _ _ q)⟩
theorem sts_nil : STs X g [] bYes := PTsimp pts_nil fun σ H Q ⟨μ, ρ, S, re, rs, p⟩ => Post.here p rs rfl
theorem sts_one {ft : BF} (h : ST X g WF a ft) : STs X g [a] ft := pts_one h

def wipeP (ρ : Env') : List Nat → Env'
  | [] => ρ
  | v :: vs => (wipeP ρ vs).set v none
theorem RE.unset {K : PySem.W.Frag} {μ : List Addr} {H : Hp} {ρ : Env'} {σ : St} (h : RE K μ H ρ σ) (i : Nat) (o : Option V) : RE K μ H (ρ.set i none) (σ.set i o) := by
  refine ⟨by simp [h.len], fun j w e => ?_⟩
  by_cases hj : i = j
  · subst hj
    by_cases hl : i < ρ.length
    · rw [List.getElem?_set_self hl] at e; cases e
    · rw [List.getElem?_eq_none (by simpa using hl)] at e; cases e
  · rw [List.getElem?_set_ne hj] at e
    rw [List.getElem?_set_ne hj]
    exact h.at_ j w e
theorem RE.wipe {K : PySem.W.Frag} {μ : List Addr} {H : Hp} {ρ : Env'} {σ : St} (h : RE K μ H ρ σ) : ∀ (vs : List Nat), RE K μ H (wipeP ρ vs) (L2.wipe σ vs)
  | [] => h
  | v :: vs => (RE.wipe h vs).unset v none

/-! ### [.. for .. in .. if ..] -/
def lcL (src : Src) (t : Tg) (tt : BF) (te : EF) (d : Nat) (ρ : Env') : Nat → Nat → Store → R PV
  | 0, _, _ => .bad
  | n + 1, i, S => match nth src i S with
    | none => .bad
    | some none => .ok (.loc d) S
    | some (some v) => match t v ρ S with
      | none => .bad
      | some (ρ1, S1) => match tt ρ1 S1 with
        | .ok true S2 => match te ρ1 S2 with
          | .ok y S3 => match S3[d]? with
            | some (.lst acc) => if acc.length < LINE then lcL src t tt te d ρ n (i + 1) (S3.set d (.lst (acc ++ [y]))) else .bad
            | _ => .bad
          | _ => .bad
        | .ok false S2 => lcL src t tt te d ρ n (i + 1) S2
        | _ => .bad
def eLc (it : IF) (t : Tg) (tt : BF) (te : EF) (vs : List Nat) : EF := fun ρ S => (it ρ S).bind fun src S1 => lcL src t tt te S1.length (wipeP ρ vs) (fuelOf src S1) 0 (S1 ++ [.lst []])
theorem lc_sound {wi : IF} {t : Tg} {tt : BF} {te : EF} {vs : List Nat} {σ : St} {H : Hp} {Q : VK} (h : tEv g W (eLc wi t tt te vs) σ H Q) : tLc (tEvI g W wi) (tgc g vs t) (tEvB g WF tt) (tEv g WF te) vs σ H Q := by
  obtain ⟨μ, ρ, S, re, rs, p⟩ := h
  refine ⟨μ, ρ, S, re, rs, (Post.bind p).imp fun J H1 ⟨μ1, src, S1, p1, l1, rs1, rel, q⟩ => ?_⟩
  intro D hD
  have rs2 := rs1.newL hD (xs := []) .nil
  have pre2 : Pre μ1 (μ1 ++ [D]) := ⟨_, rfl⟩
  have le2 : Le g.K H1 (upd H1 D (.lst [])) := .upd (.none hD)
  have dAt : (μ1 ++ [D])[S1.length]? = some D := by rw [← rs1.len, List.getElem?_append_right (Nat.le_refl _), Nat.sub_self]; rfl
  have re2 := ((re.mono p1 l1).mono pre2 le2).wipe vs
  refine ⟨fun i m H' => ∃ μ' S', Pre (μ1 ++ [D]) μ' ∧ Le g.K (upd H1 D (.lst [])) H' ∧ RS g μ' S' H' ∧ PostE g W σ μ' H' (lcL src t tt te S1.length (wipeP ρ vs) m i S') Q,
    ⟨_, _, _, .refl, .refl, rs2, q.later pre2 le2⟩, ?_⟩
  rintro i m H' ⟨μ', S', p', l', rs', q'⟩
  cases m with
  | zero => exact q'.elim
  | succ m =>
    unfold lcL at q'
    split at q'
    · exact q'.elim
    · rename_i e
      exact .inl ⟨(rel μ' S' H' i (pre2.trans p') (le2.trans l') rs').1 e, Post.here q' rs' (.loc (p'.get dAt))⟩
    · rename_i v e
      obtain ⟨go, yld⟩ := (rel μ' S' H' i (pre2.trans p') (le2.trans l') rs').2 v e
      refine .inr ⟨go, _, fun H2 h => ⟨m, Nat.lt_succ_self m, h⟩, fun x H2 y => ?_⟩
      obtain ⟨l2, rs2', rv⟩ := yld x H2 y
      have q2 := q'.later (.refl (μ := μ')) l2
      split at q2
      · exact q2.elim
      · rename_i ρ1 S2 e1
        refine ⟨μ', wipeP ρ vs, S', v, ρ1, S2, re2.mono p' (l'.trans l2), rs2', rv, e1, fun σ2 re3 rs3 hw => ⟨hw.trans wipe_wipe, μ', ρ1, S2, re3, rs3, ?_⟩⟩
        cases et : tt ρ1 S2 with
        | bad => rw [et] at q2; exact q2.elim
        | exc c S3 => rw [et] at q2; exact q2.elim
        | ok b S3 =>
          rw [et] at q2
          intro μ3 b' H3 p3 l3 rs3' hb
          subst hb
          cases b with
          | false =>
            rw [if_neg Bool.false_ne_true]
            exact ⟨μ3, S3, p'.trans p3, l'.trans (l2.trans l3), rs3', q2.later p3 l3⟩
          | true =>
            rw [if_pos rfl]
            refine ⟨μ3, ρ1, S3, re3.mono p3 l3, rs3', ?_⟩
            have q3 := q2.later p3 l3
            dsimp only at q3
            cases ee : te ρ1 S3 with
            | bad => rw [ee] at q3; exact q3.elim
            | exc c S4 => rw [ee] at q3; exact q3.elim
            | ok y S4 =>
              rw [ee] at q3
              intro μ4 y' H4 p4 l4 rs4 ry
              dsimp only at q3
              split at q3
              · rename_i acc e4
                split at q3
                · rename_i hl
                  have hD4 := (p'.trans (p3.trans p4)).get dAt
                  obtain ⟨accv, hacc, racc⟩ := rs4.lst hD4 e4
                  have w := Wr.lst hacc
                  refine ⟨accv, hacc, by rw [← racc.length, line_eq]; exact hl, μ4, _, p'.trans (p3.trans p4), l'.trans (l2.trans (l3.trans (l4.trans (.upd w)))), rs4.put (so := .lst (acc ++ [y])) hD4 e4 rfl rfl ⟨_, upd_same, (racc.snoc ry).mono .refl (.upd w)⟩, q3.later p4 (l4.trans (.upd w))⟩
                · exact q3.elim
              · exact q3.elim
theorem se_lc {elt iter : Expr} {ifs : List Expr} {scope : Scope} {own : List (Str × Nat)} {wi : IF} {t : Tg} {tt : BF} {te : EF} (hc : X.calm = true) (hN : X.N.Nodup) (hi : SI X g W tg iter wi) (ok : BlkOk X.N X.env.scope scope own)
    (hg : ∀ s H C cl fp, SGc (BX X scope s H C cl fp) g (own.map (·.2)) tg t) (ht : ∀ s H C cl fp, STs (BX X scope s H C cl fp) g ifs tt) (he : ∀ s H C cl fp, SE (BX X scope s H C cl fp) g WF elt te)
    (hs : ∀ x, foldedSetIterable iter X.env x = pure x := by intro _; rfl) : SE X g W (.ListComp elt [⟨tg, iter, ifs, 0⟩] scope pos) (eLc wi t tt te (own.map (·.2))) :=
  PEimp (pe_lc hc hN hi ok hg ht he hs) fun σ H Q h => lc_sound h
theorem tAsg_of {te : TE} {f : EF} {t : Tg} {gt : TG} (h1 : ∀ σ H Q, tEv g W f σ H Q → te σ H Q) (h2 : ∀ v σ H Q, tgv g t v σ H Q → gt v σ H Q) (D : Ends) (σ : St) (H : Hp) (h : tSv g W (sAsg f t) D σ H) : te σ H fun x H1 => gt x σ H1 D.nx := by
  refine h1 σ H _ ?_
  obtain ⟨μ, ρ, S, re, rs, p⟩ := asgP h
  exact ⟨μ, ρ, S, re, rs, p.imp fun x H1 q => h2 _ _ _ _ q⟩
theorem gName_of {i : Nat} (v : V) (σ : St) (H : Hp) (Q : St → Hp → Prop) (h : tgv g (tgN i) v σ H Q) : gName i v σ H Q := by
  obtain ⟨μ, ρ, S, w, ρ', S', re, rs, rv, e, k⟩ := h
  cases e
  exact k μ _ H .refl .refl rs (re.set rv i)
theorem ss_setLc {elt iter : Expr} {ifs : List Expr} {scope : Scope} {own : List (Str × Nat)} {wi : IF} {t : Tg} {tt : BF} {te : EF} {i : Nat} {y : Str} {py spos : Pos} (hc : X.calm = true) (hN : X.N.Nodup) (hy : X.N[i]? = some y) (hyl : X.env.scope.names.lookup y = some .local)
    (hsw : swapsWith (.ListComp elt [⟨tg, iter, ifs, 0⟩] scope pos) (some (.Name y py)) spos.line X.env = pure true) (hi : SI X g W tg iter wi) (ok : BlkOk X.N X.env.scope scope own)
    (hg : ∀ s H C cl fp, SGc (BX X scope s H C cl fp) g (own.map (·.2)) tg t) (ht : ∀ s H C cl fp, STs (BX X scope s H C cl fp) g ifs tt) (he : ∀ s H C cl fp, SE (BX X scope s H C cl fp) g WF elt te)
    (hs : ∀ x, foldedSetIterable iter X.env x = pure x := by intro _; rfl) : SS X g W (.Assign [.Name y py] (.ListComp elt [⟨tg, iter, ifs, 0⟩] scope pos) spos) (sAsg (eLc wi t tt te (own.map (·.2))) (tgN i)) :=
  PSimp (ps_setLc hc hN hy hyl hsw hi ok hg ht he hs) fun D σ H h => tAsg_of (fun σ H Q h => lc_sound h) gName_of D σ H h

/-! ### {..: .. for .. in .. if ..} -/
def dcL (src : Src) (t : Tg) (tt : BF) (tk tv : EF) (d : Nat) (ρ : Env') : Nat → Nat → Store → R PV
  | 0, _, _ => .bad
  | n + 1, i, S => match nth src i S with
    | none => .bad
    | some none => .ok (.loc d) S
    | some (some v) => match t v ρ S with
      | none => .bad
      | some (ρ1, S1) => match tt ρ1 S1 with
        | .ok true S2 => match tk ρ1 S2 with
          | .ok y S3 => match tv ρ1 S3 with
            | .ok z S4 => match S4[d]? with
              | some (.dic kvs) => if keyP y ∧ kvs.length < LINE then dcL src t tt tk tv d ρ n (i + 1) (S4.set d (.dic (putP kvs y z))) else .bad
              | _ => .bad
            | _ => .bad
          | _ => .bad
        | .ok false S2 => dcL src t tt tk tv d ρ n (i + 1) S2
        | _ => .bad
def eDc (it : IF) (t : Tg) (tt : BF) (tk tv : EF) (vs : List Nat) : EF := fun ρ S => (it ρ S).bind fun src S1 => dcL src t tt tk tv S1.length (wipeP ρ vs) (fuelOf src S1) 0 (S1 ++ [.dic []])
theorem dc_sound {wi : IF} {t : Tg} {tt : BF} {tk tv : EF} {vs : List Nat} {σ : St} {H : Hp} {Q : VK} (h : tEv g W (eDc wi t tt tk tv vs) σ H Q) : tDc (tEvI g W wi) (tgc g vs t) (tEvB g WF tt) (tEv g WF tk) (tEv g WF tv) vs σ H Q := by
  obtain ⟨μ, ρ, S, re, rs, p⟩ := h
  refine ⟨μ, ρ, S, re, rs, (Post.bind p).imp fun J H1 ⟨μ1, src, S1, p1, l1, rs1, rel, q⟩ => ?_⟩
  intro D hD
  have pre2 : Pre μ1 (μ1 ++ [D]) := ⟨_, rfl⟩
  have le2 : Le g.K H1 (upd H1 D (.dK [])) := .upd (.none hD)
  have rs2 : RS g (μ1 ++ [D]) (S1 ++ [.dic []]) (upd H1 D (.dK [])) := rs1.push (so := .dic []) hD ⟨[], upd_same, .nil⟩
  have dAt : (μ1 ++ [D])[S1.length]? = some D := by rw [← rs1.len, List.getElem?_append_right (Nat.le_refl _), Nat.sub_self]; rfl
  have re2 := ((re.mono p1 l1).mono pre2 le2).wipe vs
  refine ⟨fun i m H' => ∃ μ' S', Pre (μ1 ++ [D]) μ' ∧ Le g.K (upd H1 D (.dK [])) H' ∧ RS g μ' S' H' ∧ PostE g W σ μ' H' (dcL src t tt tk tv S1.length (wipeP ρ vs) m i S') Q,
    ⟨_, _, _, .refl, .refl, rs2, q.later pre2 le2⟩, ?_⟩
  rintro i m H' ⟨μ', S', p', l', rs', q'⟩
  cases m with
  | zero => exact q'.elim
  | succ m =>
    unfold dcL at q'
    split at q'
    · exact q'.elim
    · rename_i e
      exact .inl ⟨(rel μ' S' H' i (pre2.trans p') (le2.trans l') rs').1 e, Post.here q' rs' (.loc (p'.get dAt))⟩
    · rename_i v e
      obtain ⟨go, yld⟩ := (rel μ' S' H' i (pre2.trans p') (le2.trans l') rs').2 v e
      refine .inr ⟨go, _, fun H2 h => ⟨m, Nat.lt_succ_self m, h⟩, fun x H2 y => ?_⟩
      obtain ⟨l2, rs2', rv⟩ := yld x H2 y
      have q2 := q'.later (.refl (μ := μ')) l2
      split at q2
      · exact q2.elim
      · rename_i ρ1 S2 e1
        refine ⟨μ', wipeP ρ vs, S', v, ρ1, S2, re2.mono p' (l'.trans l2), rs2', rv, e1, fun σ2 re3 rs3 hw => ⟨hw.trans wipe_wipe, μ', ρ1, S2, re3, rs3, ?_⟩⟩
        cases et : tt ρ1 S2 with
        | bad => rw [et] at q2; exact q2.elim
        | exc c S3 => rw [et] at q2; exact q2.elim
        | ok b S3 =>
          rw [et] at q2
          intro μ3 b' H3 p3 l3 rs3' hb
          subst hb
          cases b with
          | false =>
            rw [if_neg Bool.false_ne_true]
            exact ⟨μ3, S3, p'.trans p3, l'.trans (l2.trans l3), rs3', q2.later p3 l3⟩
          | true =>
            rw [if_pos rfl]
            refine ⟨μ3, ρ1, S3, re3.mono p3 l3, rs3', ?_⟩
            have q3 := q2.later p3 l3
            dsimp only at q3
            cases ek : tk ρ1 S3 with
            | bad => rw [ek] at q3; exact q3.elim
            | exc c S4 => rw [ek] at q3; exact q3.elim
            | ok y S4 =>
              rw [ek] at q3
              intro μ4 y' H4 p4 l4 rs4 ry
              refine ⟨μ4, ρ1, S4, (re3.mono p3 l3).mono p4 l4, rs4, ?_⟩
              have q4 := q3.later p4 l4
              dsimp only at q4
              cases ev : tv ρ1 S4 with
              | bad => rw [ev] at q4; exact q4.elim
              | exc c S5 => rw [ev] at q4; exact q4.elim
              | ok z S5 =>
                rw [ev] at q4
                intro μ5 z' H5 p5 l5 rs5 rz
                dsimp only at q4
                split at q4
                · rename_i kvs e4
                  split at q4
                  · rename_i hc
                    have hD5 := (p'.trans (p3.trans (p4.trans p5))).get dAt
                    obtain ⟨ks, hks, rks⟩ := rs5.dic hD5 e4
                    obtain ⟨kk, hk, rfl⟩ := Rk.of ry hc.1
                    have w := Wr.dK hks
                    refine ⟨ks, kk, rfl, hks, by rw [← rks.length, line_eq]; exact hc.2, μ5, _, p'.trans (p3.trans (p4.trans p5)), l'.trans (l2.trans (l3.trans (l4.trans (l5.trans (.upd w))))),
                      rs5.put (so := .dic (putP kvs y z)) hD5 e4 rfl rfl ⟨_, upd_same, (rks.put hk rz).mono .refl (.upd w)⟩, q4.later p5 (l5.trans (.upd w))⟩
                  · exact q4.elim
                · exact q4.elim
variable {kx vx iter : Expr} {ifs : List Expr} {scope : Scope} {own : List (Str × Nat)} {wi : IF} {t : Tg} {tt : BF} {tk tv : EF}
theorem se_dc (hc : X.calm = true) (hN : X.N.Nodup) (hi : SI X g W tg iter wi) (ok : BlkOk X.N X.env.scope scope own)
    (hg : ∀ s H C cl fp, SGc (BX X scope s H C cl fp) g (own.map (·.2)) tg t) (ht : ∀ s H C cl fp, STs (BX X scope s H C cl fp) g ifs tt) (hk : ∀ s H C cl fp, SE (BX X scope s H C cl fp) g WF kx tk) (he : ∀ s H C cl fp, SE (BX X scope s H C cl fp) g WF vx tv)
    (hs : ∀ x, foldedSetIterable iter X.env x = pure x := by intro _; rfl) : SE X g W (.DictComp kx vx [⟨tg, iter, ifs, 0⟩] scope pos) (eDc wi t tt tk tv (own.map (·.2))) :=
  PEimp (pe_dc hc hN hi ok hg ht hk he hs) fun σ H Q h => dc_sound h
/-- name = {.. for ..} on one line, the name a local -/
theorem ps_setD {i : Nat} {y : Str} {py spos : Pos} {wi : TI} {gt : TG} {tt : TT} {tk tv : TE} (hc : X.calm = true) (hN : X.N.Nodup) (hy : X.N[i]? = some y) (hyl : X.env.scope.names.lookup y = some .local)
    (hsw : swapsWith (.DictComp kx vx [⟨tg, iter, ifs, 0⟩] scope pos) (some (.Name y py)) spos.line X.env = pure true) (hi : PI X tg iter wi) (ok : BlkOk X.N X.env.scope scope own)
    (hg : ∀ s H C cl fp, PG (BX X scope s H C cl fp) tg gt) (ht : ∀ s H C cl fp, PTs (BX X scope s H C cl fp) ifs tt)
    (hk : ∀ s H C cl fp, PE (BX X scope s H C cl fp) kx tk) (he : ∀ s H C cl fp, PE (BX X scope s H C cl fp) vx tv) (hs : ∀ x, foldedSetIterable iter X.env x = pure x := by intro _; rfl) :
    PS X (.Assign [.Name y py] (.DictComp kx vx [⟨tg, iter, ifs, 0⟩] scope pos) spos) (tAsg (tDc wi gt tt tk tv (own.map (·.2))) (gName i)) := by
  constructor
  intro pins s σ H D I w
  rw [exec_Assign_Name_used _ _ _ _ hsw]
  apply wpAny_bind
  apply wpAny_standAt
  apply wpAny_bind
  have w' : tDc wi gt tt tk tv (own.map (·.2)) σ H (fun x H1 => gName i x σ H1 D.nx) := w
  show wpAny _ X.A (do
    let _ ← comprehension (.DictComp kx vx [⟨tg, iter, ifs, 0⟩] scope pos) scope X.env (firstIterPos [⟨tg, iter, ifs, 0⟩] pos) newDict false (eval iter X.env) (some (assign (.Name y py) X.env))) _ _ s
  apply wpAny_bind
  refine thn (dc_core (Qf := fun _ s' => SP X pins D .next s') hc hN I hi ok hg ht hk he hs w' ?_) (fun _ s' hq => wpAny_pure (wpAny_pure hq))
  rintro L C s' m H' I' q hn ⟨f0, f1, f2, f3, f4, f5⟩
  show wpAny _ _ (assign (.Name y py) X.env (.ref L)) _ _ _
  apply wpAny_assign_Name
  refine store_ok2 (v := V.ref L) I' hN hy (.inl hyl) rfl ?_ (.inr hyl)
  rintro s2 I2 ⟨a, sb, ha⟩
  have apart : C ≠ a := ha.elim (fun z => z ▸ f1) (fun z e => f4 y a z e.symm)
  refine ⟨m, hn.sameBut sb apart, ?_⟩
  intro h3 sb3
  refine ⟨_, H', ?_, q⟩
  refine I2.turned (t' := s2.toks) (fun b o hb e => ?_) f0 f1 f3 f4 f5
  exact (sb3.2 b hb).trans e
theorem ss_setDc {i : Nat} {y : Str} {py spos : Pos} (hc : X.calm = true) (hN : X.N.Nodup) (hy : X.N[i]? = some y) (hyl : X.env.scope.names.lookup y = some .local)
    (hsw : swapsWith (.DictComp kx vx [⟨tg, iter, ifs, 0⟩] scope pos) (some (.Name y py)) spos.line X.env = pure true) (hi : SI X g W tg iter wi) (ok : BlkOk X.N X.env.scope scope own)
    (hg : ∀ s H C cl fp, SGc (BX X scope s H C cl fp) g (own.map (·.2)) tg t) (ht : ∀ s H C cl fp, STs (BX X scope s H C cl fp) g ifs tt) (hk : ∀ s H C cl fp, SE (BX X scope s H C cl fp) g WF kx tk) (he : ∀ s H C cl fp, SE (BX X scope s H C cl fp) g WF vx tv)
    (hs : ∀ x, foldedSetIterable iter X.env x = pure x := by intro _; rfl) : SS X g W (.Assign [.Name y py] (.DictComp kx vx [⟨tg, iter, ifs, 0⟩] scope pos) spos) (sAsg (eDc wi t tt tk tv (own.map (·.2))) (tgN i)) :=
  PSimp (ps_setD hc hN hy hyl hsw hi ok hg ht hk he hs) fun D σ H h => tAsg_of (fun σ H Q h => dc_sound h) gName_of D σ H h
end
end Ev


/-! Ev: texts told, methods, dicts. -/
namespace Ev
open PySem PySem.Spec PyProof.Rows L2
section
variable {X : Cx} {g : G} {W : WX} {pos : Pos} {a b c o e : Expr} {es : List Expr} {fa fb fc fo : EF} {fs : AF}
/-! ### f-strings -/
def fmtP (v : PV) (S : Store) : Option (PV × Store) := match v with
  | .str s => if s.length ≤ LINE then some (.str s, S) else none
  | .int i => if i.natAbs.log2 < 1920 then some (.str (istr i), S) else none
  | _ => none
theorem se_fmt (ha : SE X g W a fa) : SE X g W (.FormattedValue a (-1) none pos) (eUn fmtP fa) :=
  PEimp (pe_fmt ha) fun σ H Q h => one h fun μ v S x H2 rs rv q => by
    obtain ⟨z, S', e, k⟩ := Post.ofO q
    unfold fmtP at e
    split at e
    · split at e
      · rename_i hl
        cases e; cases rv
        exact .inl ⟨_, rfl, by rw [slen, line_eq]; exact hl, k μ _ H2 .refl .refl rs (.str _)⟩
      · cases e
    · split at e
      · rename_i hl
        cases e; cases rv
        refine .inr ⟨_, rfl, hl, ?_⟩
        have := k μ (.str ⟨(istr _).toArray⟩) H2 .refl .refl rs (.str _)
        rw [show (⟨(istr _).toArray⟩ : Str) = Str.ofString (toString _) from (sof _).symm] at this
        exact this
      · cases e
    · cases e
theorem se_joined1 (ha : SE X g W a fa) : SE X g W (.JoinedStr [a] pos) fa := pe_joined1 ha
/-- parts of an f-string -/
inductive SJ (X : Cx) (g : G) (W : WX) : List Expr → List EF → Prop where
  | nil : SJ X g W [] []
  | cons {e : Expr} {f : EF} {es : List Expr} {fs : List EF} (h : SE X g W e f) (r : SJ X g W es fs) : SJ X g W (e :: es) (f :: fs)
def jsL : List EF → List Nat → EF
  | [], acc => fun _ S => .ok (.str acc) S
  | f :: fs, acc => fun ρ S => (f ρ S).bind fun v S1 => match v with
    | .str s => if acc.length + s.length ≤ LINE then jsL fs (acc ++ s) ρ S1 else .bad
    | _ => .bad
theorem SJ.pj {es : List Expr} {fs : List EF} (h : SJ X g W es fs) : PJ X es (fs.map (tEv g W)) := by
  induction h with
  | nil => exact .nil
  | cons h r ih => exact .cons h ih
theorem jsL_sound {fs : List EF} : ∀ {acc : List Nat} {σ : St} {H : Hp} {Q : Str → Hp → Prop}, tEv g W (jsL fs acc) σ H (fun x H1 => ∃ y : Str, x = .str y ∧ Q y H1) → tJs (fs.map (tEv g W)) ⟨acc.toArray⟩ σ H Q := by
  induction fs with
  | nil =>
    intro acc σ H Q ⟨μ, ρ, S, re, rs, p⟩
    obtain ⟨y, e, q⟩ := Post.here p rs (.str acc)
    cases e
    exact q
  | cons f fs ih =>
    intro acc σ H Q ⟨μ, ρ, S, re, rs, p⟩
    refine ⟨μ, ρ, S, re, rs, (Post.bind (r := f ρ S) p).imp fun x H1 ⟨μ1, v, S1, p1, l1, rs1, rv, q⟩ => ?_⟩
    split at q
    · split at q
      · rename_i s hl
        cases rv
        refine ⟨_, rfl, ?_, ?_⟩
        · rw [sapp, slen, List.length_append, line_eq]; exact hl
        · rw [sapp]
          exact ih ⟨μ1, ρ, S1, re.mono p1 l1, rs1, q⟩
      · exact q.elim
    · exact q.elim
theorem jsL_str : ∀ (fs : List EF) (acc : List Nat) (ρ : Env') (S : Store) {v : PV} {S' : Store}, jsL fs acc ρ S = .ok v S' → ∃ s, v = .str s
  | [], acc, ρ, S, v, S', e => by
    unfold jsL at e
    cases e
    exact ⟨_, rfl⟩
  | f :: fs, acc, ρ, S, v, S', e => by
    unfold jsL at e
    unfold R.bind at e
    split at e
    · dsimp only at e
      split at e
      · split at e
        · exact jsL_str fs _ ρ _ e
        · cases e
      · cases e
    · cases e
    · cases e
def eJs (fs : List EF) : EF := jsL fs []
theorem se_joined {v1 v2 : Expr} {rest : List Expr} {fs : List EF} (h : SJ X g W (v1 :: v2 :: rest) fs) : SE X g W (.JoinedStr (v1 :: v2 :: rest) pos) (eJs fs) :=
  PEimp (pe_joined h.pj) fun σ H Q ⟨μ, ρ, S, re, rs, p⟩ => jsL_sound (acc := []) ⟨μ, ρ, S, re, rs, by
    unfold eJs at p
    cases e : jsL fs [] ρ S with
    | ok v S' =>
      rw [e] at p
      obtain ⟨s, rfl⟩ := jsL_str fs [] ρ S e
      intro μ' x H' hp hl rs' r
      cases r
      exact ⟨_, rfl, p μ' _ H' hp hl rs' (.str s)⟩
    | exc c S' => rw [e] at p; exact p
    | bad => rw [e] at p; exact p⟩
/-! ### sep.join -/
def strsOf : List PV → Option (List (List Nat))
  | [] => some []
  | .str s :: r => match strsOf r with
    | some l => some (s :: l)
    | none => none
  | _ => none
def seqOf (S : Store) : PV → Option (List PV)
  | .tup xs => some xs
  | .loc l => listAt S l
  | _ => none
def joinP (v w : PV) (S : Store) : Option (PV × Store) := match v, seqOf S w with
  | .str a, some xs => match strsOf xs with
    | some ys => if (ys.map List.length).sum + ys.length * a.length ≤ LINE then some (.str (TL.joinL a ys), S) else none
    | none => none
  | _, _ => none
theorem strsOf_vals {μ : List Addr} {H : Hp} : ∀ {xs : List PV} {vs : List V} {ys : List (List Nat)}, Rps g.K μ H xs vs → strsOf xs = some ys → vs = (ys.map fun s => (⟨s.toArray⟩ : Str)).map V.str
  | _, _, _, .nil, e => by cases e; rfl
  | x :: xs, _, _, .cons h r, e => by
    cases h <;> try (cases e)
    rename_i s
    unfold strsOf at e
    split at e
    · rename_i l e2
      cases e
      rw [List.map_cons, List.map_cons, strsOf_vals r e2]
    · cases e
theorem join_S (a : List Nat) (ys : List (List Nat)) : Txt.join ⟨a.toArray⟩ (ys.map fun s => (⟨s.toArray⟩ : Str)) = ⟨(TL.joinL a ys).toArray⟩ := SX.join_S a ys
theorem seqOf_at {μ : List Addr} {S : Store} {H : Hp} {w : PV} {x : V} {xs : List PV} (rs : RS g μ S H) (r : Rp g.K μ H w x) (e : seqOf S w = some xs) : ∃ p vs, x = .ref p ∧ (SqL g.K H p vs ∨ SqT g.K H p vs) ∧ Rps g.K μ H xs vs := by
  cases r with
  | tup h r => cases e; exact ⟨_, _, rfl, .inr h, r⟩
  | loc h =>
    obtain ⟨vs, q, r⟩ := rs.at_ h e
    exact ⟨_, vs, rfl, .inl q, r⟩
  | non => cases e
  | bl => cases e
  | int => cases e
  | str => cases e
/-- a method of texts with one argument -/
def eM1 (f : BOp) (fo fe : EF) : EF := fun ρ S => (fo ρ S).bind fun v S1 => match v with
  | .str _ => (fe ρ S1).bind fun w S2 => R.ofO (f v w S2)
  | _ => .bad
theorem m1_of {f : BOp} {r : V → List V → Hp → VK → Prop} {σ : St} {H : Hp} {Q : VK} (h : tEv g W (eM1 f fo fa) σ H Q)
    (hr : ∀ μ v w S x y H2, RS g μ S H2 → Rp g.K μ H2 v x → Rp g.K μ H2 w y → PostE g W σ μ H2 (R.ofO (f v w S)) Q → r x [y] H2 Q) : tM1 r (tEv g W fo) (tEv g W fa) σ H Q := by
  obtain ⟨μ, ρ, S, re, rs, p⟩ := h
  refine ⟨μ, ρ, S, re, rs, (Post.bind (r := fo ρ S) p).imp fun x H1 ⟨μ1, v, S1, p1, l1, rs1, rv, q⟩ => ?_⟩
  split at q
  · have rv' := rv
    cases rv'
    refine ⟨⟨_, rfl⟩, μ1, ρ, S1, re.mono p1 l1, rs1, (Post.bind q).imp fun y H2 ⟨μ2, w, S2, p2, l2, rs2, rw', q2⟩ => ?_⟩
    exact hr μ2 _ w S2 _ y H2 rs2 (rv.mono p2 l2) rw' q2
  · exact q.elim
theorem se_join {apos : Pos} (hK : X.K = g.K) (ho : SE X g W o fo) (he : SE X g W e fa) (hs : starEach [e] X.env = [(false, eval e X.env)] := by rfl) (hbase : attributeBase o "join" X.env (eval o X.env) = eval o X.env := by rfl) (hline : (apos.endLine == pos.line) = true := by rfl) :
    SE X g W (.Call (.Attribute o "join" apos) [e] [] pos) (eM1 joinP fo fa) :=
  PEimp (pe_join ho he hs hbase hline) fun σ H Q h => m1_of h fun μ v w S x y H2 rs rv rw' q => by
    obtain ⟨z, S', e, k⟩ := Post.ofO q
    unfold joinP at e
    split at e
    · rename_i a xs e1
      split at e
      · rename_i ys e2
        split at e
        · rename_i hl
          cases e
          cases rv
          obtain ⟨p, vs, rfl, hp, r⟩ := seqOf_at rs rw' e1
          have hv := strsOf_vals r e2
          subst hv
          refine ⟨_, p, _, rfl, rfl, by rw [hK]; exact hp, ?_, ?_⟩
          · rw [List.map_map, List.length_map, slen]
            have e3 : (ys.map ((fun x : Str => x.length) ∘ fun s => (⟨s.toArray⟩ : Str))) = ys.map List.length := List.map_congr_left fun s _ => slen s
            rw [e3]
            exact hl
          · rw [join_S]
            exact k μ _ H2 .refl .refl rs (.str _)
        · cases e
      · cases e
    · cases e
/-! ### o.append(e) -/
def eAppd (fo : EF) (fs : AF) : EF := fun ρ S => (fo ρ S).bind fun v S1 => match tyP S1 v with
  | some "list" => (fs ρ S1).bind fun ws S2 => match v, ws with
    | .loc l, [w] => match S2[l]? with
      | some (.lst xs) => if xs.length < LINE then .ok .non (S2.set l (.lst (xs ++ [w]))) else .bad
      | _ => .bad
    | _, _ => .bad
  | _ => .bad
theorem se_append {apos : Pos} (hK : X.K = g.K) (ho : SE X g W o fo) (ha : SA X g W (e :: es) fs) (hbase : attributeBase o "append" X.env (eval o X.env) = eval o X.env := by rfl)
    (hfew : ((backTo pos (starEach (e :: es) X.env)).all (fun x => !x.1) && (backToKw pos (keywordEach [] X.env)).all (fun x => x.1.isSome)
      && decide ((e :: es).length + ([] : List Keyword).length + (if ([] : List Keyword).isEmpty then 0 else 1) < 30)) = true := by rfl)
    (hline : (apos.endLine == pos.line) = true := by rfl) (hs : starEach (e :: es) X.env = (false, eval e X.env) :: starEach es X.env := by rfl) (hplain : (backTo pos (starEach es X.env)).any (·.1) = false := by rfl) :
    SE X g W (.Call (.Attribute o "append" apos) (e :: es) [] pos) (eAppd fo fs) :=
  PEimp (pe_bm PySem.F.plainAttrs_list PySem.F.slot_list_append PySem.F.type_list_append mt_append ho ha hbase hfew hline hs hplain) fun σ H Q ⟨μ, ρ, S, re, rs, p⟩ => by
    refine ⟨μ, ρ, S, re, rs, (Post.bind (r := fo ρ S) p).imp fun x H1 ⟨μ1, v, S1, p1, l1, rs1, rv, q⟩ => ?_⟩
    split at q
    · rename_i e1
      have ty : tyV X.K "list" x H1 := by
        cases rv with
        | loc h1 =>
          unfold tyP at e1
          split at e1
          · exact absurd e1 (by decide)
          · exact absurd e1 (by decide)
          · exact absurd e1 (by decide)
          · exact absurd e1 (by decide)
          · exact absurd e1 (by decide)
          · rename_i e0
            cases e0
            split at e1
            · rename_i e2
              obtain ⟨vs, q1, _⟩ := rs1.lst h1 e2
              exact .inl ⟨rfl, vs, .inl (.inl q1)⟩
            · exact absurd e1 (by decide)
            · cases e1
        | non => exact absurd e1 (by simp [tyP])
        | bl => exact absurd e1 (by simp [tyP])
        | int => exact absurd e1 (by simp [tyP])
        | str => exact absurd e1 (by simp [tyP])
        | tup => exact absurd e1 (by simp [tyP])
      refine ⟨ty, μ1, ρ, S1, re.mono p1 l1, rs1, (Post.bind (rel := Rps g.K) q).imp fun ys H2 ⟨μ2, ws, S2, p2, l2, rs2, rws, q2⟩ => ?_⟩
      split at q2
      · rename_i l w
        split at q2
        · rename_i xs e2
          split at q2
          · rename_i hl
            obtain ⟨y, rfl, ry⟩ := rws.one
            cases rv with
            | loc h1 =>
              have h2 := p2.get h1
              obtain ⟨vs, q1, r1⟩ := rs2.lst h2 e2
              have wq := Wr.lst q1
              exact ⟨_, vs, y, rfl, rfl, q1, by rw [← r1.length, line_eq]; exact hl, q2 μ2 _ _ .refl (.upd wq) (rs2.put (so := .lst (xs ++ [_])) h2 e2 rfl rfl ⟨_, upd_same, (r1.snoc ry).mono .refl (.upd wq)⟩) .non⟩
          · exact q2.elim
        · exact q2.elim
      · exact q2.elim
    · exact q.elim
/-! ### {} -/
def eDn : EF := fun _ S => .ok (.loc S.length) (S ++ [.dic []])
theorem se_dnew : SE X g W (.Dict [] [] pos) eDn :=
  PEimp pe_dnewK fun σ H Q ⟨μ, ρ, S, re, rs, p⟩ q hq => p _ _ _ ⟨[q], rfl⟩ (.upd (.none hq)) (rs.push (so := .dic []) hq ⟨[], upd_same, .nil⟩) (Rp.atEnd rs q _)
/-- dict(pairs) -/
def pairOf : PV → Option (PV × PV)
  | .tup [k, v] => if keyP k then some (k, v) else none
  | _ => none
def pairsOf : List PV → Option (List (PV × PV))
  | [] => some []
  | x :: r => match pairOf x, pairsOf r with
    | some p, some l => some (p :: l)
    | _, _ => none
def mergeP (kvs more : List (PV × PV)) : List (PV × PV) := more.foldl (fun acc kv => putP acc kv.1 kv.2) kvs
def dicP : AOp
  | [.loc l], S => match S[l]? with
    | some (.lst xs) => match pairsOf xs with
      | some ps => some (.loc S.length, S ++ [.dic (mergeP [] ps)])
      | none => none
    | _ => none
  | _, _ => none
theorem pairsOf_at {μ : List Addr} {H : Hp} : ∀ {xs : List PV} {vs : List V} {ps : List (PV × PV)}, Rps g.K μ H xs vs → pairsOf xs = some ps →
    ∃ (as : List Addr) (ks : List (Key × V)), vs = as.map V.ref ∧ Paired (fun p kv => SqT g.K H p [kV kv.1, kv.2]) as ks ∧ Rkv g.K μ H ps ks
  | _, _, _, .nil, e => by cases e; exact ⟨[], [], rfl, .nil, .nil⟩
  | x :: xs, _, _, .cons h r, e => by
    unfold pairsOf at e
    split at e
    · rename_i p l e1 e2
      cases e
      obtain ⟨as, ks, h1, h2, h3⟩ := pairsOf_at r e2
      unfold pairOf at e1
      split at e1
      · rename_i k v
        split at e1
        · rename_i hk
          cases e1
          cases h with
          | tup h r' =>
            obtain ⟨a, b, rfl, ra, rb⟩ := r'.two
            obtain ⟨y, hy, rfl⟩ := Rk.of ra hk
            exact ⟨_ :: as, (y, b) :: ks, by rw [h1]; rfl, .cons h h2, .cons hy rb h3⟩
        · cases e1
      · cases e1
    · cases e
theorem Rkv.merge {μ : List Addr} {H : Hp} {ps : List (PV × PV)} {ks : List (Key × V)} (h : Rkv g.K μ H ps ks) : ∀ {kvs : List (PV × PV)} {ls : List (Key × V)}, Rkv g.K μ H kvs ls → Rkv g.K μ H (mergeP kvs ps) (mergeK ls ks) := by
  induction h with
  | nil => intro kvs ls q; exact q
  | cons hk h r ih => intro kvs ls q; exact ih (q.put hk h)
theorem callDic (hK : X.K = g.K) (hc : X.calm = true) : CallR X (.type "dict") (rVs g dicP) := by
  intro pins s σ H xs us Q I r h
  obtain ⟨μ, vs, S, z, S', rs, rv, e, k⟩ := h
  unfold dicP at e
  split at e
  · split at e
    · rename_i e1
      split at e
      · rename_i ps e2
        cases e
        obtain ⟨x, rfl, rx⟩ := rv.one
        cases rx with
        | loc h1 =>
          obtain ⟨ws, q1, r1⟩ := rs.lst h1 e1
          obtain ⟨as, ks, rfl, hp, hr⟩ := pairsOf_at r1 e2
          exact call_dictP hc pins s σ H _ us Q I r ⟨_, as, ks, rfl, .inl (.inl q1), by rw [hK]; exact hp, fun p hp => k _ _ _ ⟨[p], rfl⟩ (.upd (.none hp)) (rs.push (so := .dic (mergeP [] ps)) hp ⟨_, upd_same, (hr.merge .nil).mono ⟨[p], rfl⟩ (.upd (.none hp))⟩) (Rp.atEnd rs p _)⟩
      · cases e
    · cases e
  · cases e
end
end Ev


/-! Ev: tuple(dict). -/
namespace Ev
open PySem PySem.Spec PyProof.Rows L2
section
variable {prog : Program} {w : World} {A : Around} {E : Value → Shared → Prop} {s : Shared} {T : String} {d : Addr} {n : Nat} {P : Nat → Value → Prop} {OK : Heap → Prop}
/-- the items of a source of the kit, collected -/
theorem collect_src {Q : List Value → Shared → Prop} (K : PySem.W.KdlSrc prog w T d d n P OK) (hh : A.handled = none) (hok : OK s.heap) (hlt : d < s.heap.objs.size) (hn : n ≤ sizeLine) (hpush : ∀ o, OK (s.heap.push o))
    (hQ : ∀ (h' : Heap) (tk : Nat) (acc : Array Value), (∀ b o, s.heap.get? b = some o → h'.get? b = some o) → ItemsOf P acc n → Q acc.toList { s with heap := h', toks := tk }) :
    wpAny (model prog w) A (collect (.ref d)) Q E s := by
  unfold collect
  apply wpAny_bind
  apply wpAny_runValue
  apply codeAny_builtin PySem.F.entry_proto_collect
  rw [Around.under_plainId PySem.F.plain_proto_collect _]
  show wpAny _ A.in1 (newList [] >>= fun l => again (.builtin "list.__iadd__" ⟨[l, .ref d], []⟩)) _ _ s
  apply wpAny_bind
  refine wpAny_newObj_type ?_
  refine wpAny_pure ⟨plainId_quiet PySem.F.plain_list_iadd _, codeAny_builtin PySem.F.entry_list_iadd ?_⟩
  rw [Around.under_plainId PySem.F.plain_list_iadd _]
  show wpAny _ A.in1 (Builtin.List.listExtendWith (.ref s.heap.objs.size) (.ref d) (.ref s.heap.objs.size)) _ _ _
  have at0 : (s.heap.push { cls := .type "list", data := .seq ([] : List Value).toArray }).get? s.heap.objs.size = some { cls := .type "list", data := .seq #[] 0 } := Heap.get?_push_size _ rfl
  have ne : s.heap.objs.size ≠ d := Nat.ne_of_gt hlt
  refine wpAny_mono (PySem.W.kdl_extend (A := A) (R := fun rr s' => rr = .ok (.ret (.ref s.heap.objs.size)) ∧ ∃ (h' : Heap) (tk : Nat) (acc : Array Value) (c' : Nat), s' = { s with heap := h', toks := tk } ∧
      (∀ b o, s.heap.get? b = some o → h'.get? b = some o) ∧ h'.get? s.heap.objs.size = some { cls := .type "list", dict := none, data := .seq acc c', slots := #[] } ∧ ItemsOf P acc n)
    (s := { s with heap := s.heap.push { cls := .type "list", data := .seq ([] : List Value).toArray } }) K hh (hpush _) s.heap.objs.size ne ne _ 0 at0
    (fun h' tk acc c' hk e hi => ⟨rfl, h', tk, acc, c', rfl, fun b o q => hk b o (Nat.ne_of_lt (Heap.lt_size q)) (Heap.get?_push_of_some _ q), e, hi⟩) hn) (fun fin s' h => ?_) (fun e s' h => ?_)
  · cases fin with
    | done f =>
      obtain ⟨e, h', tk, acc, c', rfl, hk, hS', hi⟩ := h
      cases e
      show wpAny _ A (load s.heap.objs.size >>= _) _ _ _
      exact wpAny_bind (wpAny_load hS' (wpAny_pure (hQ h' tk acc hk hi)))
    | again c' =>
      refine ⟨h.1, codeAny_mono h.2 ?_⟩
      rintro rr s'' ⟨rfl, h', tk, acc, c', rfl, hk, hS', hi⟩
      show wpAny _ A (load s.heap.objs.size >>= _) _ _ _
      exact wpAny_bind (wpAny_load hS' (wpAny_pure (hQ h' tk acc hk hi)))
  · exact absurd h.1 (by simp)
theorem code_tuple_src {Q₁ : Value → Shared → Prop} (K : PySem.W.KdlSrc prog w T d d n P OK) (hT : T = "dict") (hh : A.handled = none) (hok : OK s.heap) (hlt : d < s.heap.objs.size) (hn : n ≤ sizeLine) (hpush : ∀ o, OK (s.heap.push o))
    (h : ∀ (h' : Heap) (tk : Nat) (acc : Array Value), (∀ b o, s.heap.get? b = some o → h'.get? b = some o) → ItemsOf P acc n → Q₁ (.ref h'.objs.size) { s with heap := h'.push { cls := .type "tuple", data := .seq acc }, toks := tk }) :
    codeAny (model prog w) A (.call (.builtin "tuple.__new__") ⟨[.type "tuple", .ref d], []⟩) (wants Q₁ E) s := by
  subst hT
  refine codeAny_of_tree ?_
  show wpAny _ A.in1 (do checkBuiltinCall "tuple.__new__" ⟨[.type "tuple", .ref d], []⟩; again (.builtin "tuple.__new__" ⟨[.type "tuple", .ref d], []⟩)) _ _ s
  refine wpAny_bind (wpAny_of_eq (PySem.F.newCall_tuple_1 _) (wpAny_pure ⟨plainId_quiet PySem.F.plain_tuple_new _, codeAny_builtin PySem.F.entry_tuple_new ?_⟩))
  rw [Around.under_plainId PySem.F.plain_tuple_new _]
  have hsub := sub_tuple_self
  have hinit := init_tuple_lookup
  have hmh := madeHere_tuple
  have hTI : s.TypeIs (.ref d) "dict" := K.type s hok
  have hh1 : A.in1.handled = none := hh
  wp_walk using wpAny_typeOf hTI, collect_src (A := A.in1) K hh1 hok hlt hn hpush
  intro h' tk acc hk hacc
  show wpAny _ _ (Builtin.Tuple.tupleExact acc.toList.toArray >>= fun v => ret v) _ _ _
  unfold Builtin.Tuple.tupleExact
  refine wpAny_bind (wpAny_newObj_type ?_ (by show acc.toList.toArray.size ≤ sizeLine; simp only [Array.toArray_toList]; rw [hacc.1]; exact hn))
  refine wpAny_pure ?_
  have e : acc.toList.toArray = acc := by simp
  rw [e]
  exact h h' tk acc hk hacc
theorem call_tuple_src {Q : Value → Shared → Prop} (K : PySem.W.KdlSrc prog w "dict" d d n P OK) (hh : A.handled = none) (hok : OK s.heap) (hlt : d < s.heap.objs.size) (hn : n ≤ sizeLine) (hpush : ∀ o, OK (s.heap.push o))
    (hQ : ∀ (h' : Heap) (tk : Nat) (acc : Array Value), (∀ b o, s.heap.get? b = some o → h'.get? b = some o) → ItemsOf P acc n → Q (.ref h'.objs.size) { s with heap := h'.push { cls := .type "tuple", data := .seq acc }, toks := tk }) :
    wpAny (model prog w) A (call (.type "tuple") [.ref d]) Q E s := by
  refine callType_codes (Q₁ := fun obj s₁ => s₁.TypeIs obj "tuple" ∧ Q obj s₁) PySem.F.called_tuple (PySem.F.typeCall_tuple_1 _) PySem.F.entry_object_init
    (code_tuple_src (A := A.in1) K rfl hh hok hlt hn hpush fun h' tk acc hk hacc => ⟨⟨_, Heap.get?_push_size _ rfl, rfl⟩, hQ h' tk acc hk hacc⟩) ?_
  intro obj s₁ h₁
  exact ⟨h₁.1, PySem.F.args_object_init_2 obj _, object_init_meets PySem.F.called_tuple.init.lookup PySem.F.called_tuple.made (by decide) prog w A.in1 _ s₁ ⟨h₁.1, rfl, h₁.2⟩⟩
end
section
variable {X : Cx} {g : G} {W : WX}
def rTupD : List V → Hp → VK → Prop := fun xs H Q => ∃ (p : Addr) (kvs : List (Key × V)), xs = [.ref p] ∧ H p = some (.dK kvs) ∧ ∀ q, H q = none → Q (.ref q) (upd H q (.tup (kvs.map fun kv => kV kv.1)))
theorem call_tuple_dK (hc : X.calm = true) : CallR X (.type "tuple") rTupD := by
  intro pins s σ H xs us Q I r ⟨p, kvs, e, hk, q⟩
  subst e
  obtain ⟨u, eu, rx⟩ := vals1 r
  subst eu
  obtain rfl : u = Value.ref p := rx
  obtain ⟨z, lo, vs, rk, hd⟩ := (show ObjOk X.prog X.w H s.heap p (.dK kvs) from I.hok p _ hk)
  obtain ⟨ep, hat⟩ := hd.dictAt
  have hl : kvs.length = vs.length := Paired.length rk
  have hlt : p < s.heap.objs.size := by
    obtain ⟨o, _, _, ho, _⟩ := hd
    exact Heap.lt_size ho
  refine call_tuple_src (PySem.W.kdl_dict (knd := mixKind X.prog X.w) (kvs := vs) (ep := ep) lo) (I.ok.hd hc) hat hlt (by rw [← hl]; exact z) (fun o => hat.push o) fun h' tk acc hkeep hacc => ?_
  have I2 : Inv X pins σ H { s with heap := h', toks := tk } := I.kept hkeep
  refine ⟨.ref h'.objs.size, upd H h'.objs.size (.tup (kvs.map fun kv => kV kv.1)), I2.laid (t' := tk) (fun c o e => Heap.get?_push_of_some _ e) (Nat.le_refl _) (show ObjOk X.prog X.w _ _ _ (.tup (kvs.map fun kv => kV kv.1)) from ⟨?_, acc.toList, ?_, ?_⟩), rfl, q _ (I2.hok.fresh (Nat.le_refl _))⟩
  · rw [List.length_map]; exact z
  · have el : acc.toList.length = acc.size := by simp
    refine vals_of_at (by rw [List.length_map, el, hacc.1, hl]) fun j x w h1 h2 => ?_
    obtain ⟨k, y, hky, hi⟩ := hacc.2 j w (by rw [← Array.getElem?_toList]; exact h2)
    have e1 : (kvs.map (·.1))[j]? = some k := by
      rw [KV.keys rk, List.getElem?_map, hky] <;> rfl
    have e2 : (kvs.map fun kv => kV kv.1)[j]? = some (kV k) := by
      have e3 : (kvs.map fun kv => kV kv.1) = (kvs.map (·.1)).map kV := by rw [List.map_map] <;> rfl
      rw [e3, List.getElem?_map, e1] <;> rfl
    rw [e2] at h1
    cases h1
    exact keyIs_rel hi
  · rw [Array.toArray_toList]; exact IsTup.new _ _
/-- tuple(x): a dict too -/
def tupP2 : AOp
  | [.tup xs], S => some (.tup xs, S)
  | [.loc l], S => match S[l]? with
    | some (.lst xs) => some (.tup xs, S)
    | some (.rol xs) => some (.tup xs, S)
    | some (.dic kvs) => some (.tup (kvs.map (·.1)), S)
    | _ => none
  | _, _ => none
theorem callTup2 (hK : X.K = g.K) (hc : X.calm = true) : CallR X (.type "tuple") (rVs g tupP2) := by
  intro pins s σ H xs us Q I r h
  obtain ⟨μ, vs, S, z, S', rs, rv, e, k⟩ := h
  unfold tupP2 at e
  split at e
  · exact callTup hK pins s σ H xs us Q I r ⟨μ, _, S, z, S', rs, rv, e, k⟩
  · split at e
    · rename_i e1; exact callTup hK pins s σ H xs us Q I r ⟨μ, _, S, z, S', rs, rv, by simp only [tupP, e1]; exact e, k⟩
    · rename_i e1; exact callTup hK pins s σ H xs us Q I r ⟨μ, _, S, z, S', rs, rv, by simp only [tupP, e1]; exact e, k⟩
    · rename_i e1
      cases e
      obtain ⟨x, rfl, rx⟩ := rv.one
      cases rx with
      | loc h1 =>
        obtain ⟨ws, q1, r1⟩ := rs.dic h1 e1
        exact call_tuple_dK hc pins s σ H _ us Q I r ⟨_, ws, rfl, q1, fun p hp => k μ _ _ .refl (.upd (.none hp)) (rs.laid hp) (.newT hp r1.keys)⟩
    · cases e
  · cases e
end
end Ev


/-! Ev: generator expressions whose elements only look (all, any, tuple of them). -/
namespace Ev
open PySem PySem.Spec PyProof.Rows L2
/-- a generator expression made, n items told by F, ready to be walked -/
def ReadyG (X : Cx) (pins : List (Addr × Obj)) (σ : St) (H1 : Hp) (P : Addr) (n : Nat) (F : Nat → Value → Prop) (g : Addr) (s5 : Shared) : Prop :=
  ∃ (fp wr : List Addr) (G : Array GenState → Array GenState → Prop) (F' : Nat → Value → Prop) (St : Nat → Shared → Prop),
    WalksS X.prog X.w X.A.in4 g fp wr G n F' St ∧ (∀ j v, F' j v → F j v) ∧ St 0 s5 ∧ (∀ b ∈ fp, b < s5.heap.objs.size) ∧ g ∈ fp ∧ (∀ i s9, St i s9 → s9.TypeIs (.ref g) "generator") ∧
    ∀ s', Moved wr G s5 s' → ∃ H2, GxR.Tabbed P H1 H2 ∧ Inv X pins σ H2 s'
/-- the element, of the i-th item v: what it tells is told by F; nothing that stands is changed -/
def ElQ (X : Cx) (scope : Scope) (x : Str) (elt : Expr) (Pf F : Nat → Value → Prop) : Prop :=
  ∀ (cenv : Env) (A' : Around) (E' : Value → Shared → Prop) (i : Nat) (v : Value) (s₂ : Shared) (m₂ : Str → Option Value), cenv.scope = scope → cenv.globals = mainGlobals → Pf i v → s₂.heap.Ns cenv.locals m₂ → m₂ x = some v →
    s₂.heap.Ns mainGlobals X.mg → wpAny (model X.prog X.w) A' (eval elt cenv) (fun y s₃ => F i y ∧ Keeps s₂ s₃) E' s₂
section
variable {X : Cx} {pins : List (Addr × Obj)} {σ : St} {H H1 : Hp} {s s1 : Shared} {c P : Addr} {elt iter : Expr} {x : Str} {px gpos : Pos} {scope : Scope} {k n : Nat} {Pf F : Nat → Value → Prop} {St : Nat → Heap → Prop} {fp : List Addr} {o : Obj} {Q' : Value → Shared → Prop} {ps : Array Value}
theorem gen_core (hr : Room k X.A) (TB : GxR.TabB X.base X.mg c P) (hcode : X.env.code = .ref c) (S : GxR.GenS X.env scope x) (I1 : Inv X pins σ H1 s1) (hP : H1 P = some (.tbl ps)) (ht : TriplesOk ps.toList)
    (W : ∀ A' : Around, A'.handled = none → Walks X.prog X.w A' s1.heap.objs.size fp [s1.heap.objs.size] n Pf St) (hst : St 0 (s1.heap.push o)) (hfp : ∀ b ∈ fp, b ≤ s1.heap.objs.size ∧ b ≠ P) (hel : ElQ X scope x elt Pf F)
    (hQ : ∀ g s5, ReadyG X pins σ H1 P n F g s5 → Q' (.ref g) s5) :
    (s1.heap.push o).NoLimit ∧ wpAny (model X.prog X.w) X.A (genexprCode X.env gpos (X.env.qual ++ "<genexpr>") scope) (fun code s₃ => wpAny (model X.prog X.w) X.A (builtinsFor X.env.globals X.env.builtins) (fun bi s₄ =>
        ∃ I fp wr n₀ Pq St₀ pz Fq, Value.ref s1.heap.objs.size = .ref I ∧ (∀ A' : Around, A'.handled = none → Walks X.prog X.w A' I fp wr n₀ Pq St₀) ∧ St₀ 0 s₄.heap ∧ (∀ b ∈ fp, b < s₄.heap.objs.size) ∧ s₄.heap.NoLimit ∧ cStatics ∉ wr ∧
          (∀ href : Heap, (∀ b o, s₄.heap.get? b = some o → href.get? b = some o) →
            QuietGen X.prog X.w (genEnv scope (cloFrom X.env.cells scope.names []) s₄.heap.objs.size code bi X.env) x [] elt (List.range s₄.heap.objs.size) wr Pq pz Fq href) ∧
          (∀ a h₅ tk gs, gs.bare = true → s₄.heap.objs.size < a → h₅.objs.size = a + 1 → (∀ b o, s₄.heap.get? b = some o → h₅.get? b = some o) →
            WalksS X.prog X.w X.A.in4 a (a :: s₄.heap.objs.size :: List.range s₄.heap.objs.size) (s₄.heap.objs.size :: wr) (GenOnlyQ s₄.gens.size) (passing pz n₀ 0).length
              (fun j y => ∃ i, (passing pz n₀ 0)[j]? = some i ∧ Fq i y) (GenAt X.prog X.w X.A.in4 a s₄.gens.size s₄.heap.objs.size (List.range s₄.heap.objs.size) wr pz n₀ Fq) →
            GenAt X.prog X.w X.A.in4 a s₄.gens.size s₄.heap.objs.size (List.range s₄.heap.objs.size) wr pz n₀ Fq 0 { s₄ with gens := s₄.gens.push gs, toks := tk, heap := h₅ } →
            Q' (.ref a) { s₄ with gens := s₄.gens.push gs, toks := tk, heap := h₅ })) X.xe s₃) X.xe { s1 with heap := s1.heap.push o } := by
  have atP : s1.heap.get? P = some { cls := .none, data := .fields ps } := I1.hok P _ hP
  have ltP : P < s1.heap.objs.size := Heap.lt_size atP
  have atP2 : (s1.heap.push o).get? P = some { cls := .none, data := .fields ps } := Heap.get?_push_of_some _ atP
  have cd : PySem.W.CodeHd (s1.heap.push o) c P := TB.code.keeps fun b u e => Heap.get?_push_of_some _ (I1.bk b u e)
  have nolim : (s1.heap.push o).NoLimit := I1.nolimit.push o
  have szp : (s1.heap.push o).objs.size = s1.heap.objs.size + 1 := Heap.size_push ..
  have notP : cStatics ≠ P := by
    intro e
    obtain ⟨_, hns, _⟩ := I1.nolimit
    obtain ⟨o', es, ep, ho, hd, _⟩ := hns
    rw [e, atP] at ho
    cases ho
    cases hd
  have stLt : cStatics < s1.heap.objs.size := let ⟨_, hns, _⟩ := I1.nolimit; hns.lt
  obtain ⟨bm, ob, e1, e2, e3, e4, e5, e6, e7, e8⟩ := TB.bm
  have rest : ∀ (code : Value) (h3 : Heap) (tk : Nat) (ps' : Array Value), Heap.ExtBut P (s1.heap.push o) h3 → (s1.heap.push o).objs.size ≤ h3.objs.size → h3.get? P = some { cls := .none, data := .fields ps' } → (∃ more, ps' = ps ++ more) → TriplesOk ps'.toList →
      wpAny (model X.prog X.w) X.A (builtinsFor X.env.globals X.env.builtins) (fun bi s₄ =>
        ∃ I fp wr n₀ Pq St₀ pz Fq, Value.ref s1.heap.objs.size = .ref I ∧ (∀ A' : Around, A'.handled = none → Walks X.prog X.w A' I fp wr n₀ Pq St₀) ∧ St₀ 0 s₄.heap ∧ (∀ b ∈ fp, b < s₄.heap.objs.size) ∧ s₄.heap.NoLimit ∧ cStatics ∉ wr ∧
          (∀ href : Heap, (∀ b o, s₄.heap.get? b = some o → href.get? b = some o) →
            QuietGen X.prog X.w (genEnv scope (cloFrom X.env.cells scope.names []) s₄.heap.objs.size code bi X.env) x [] elt (List.range s₄.heap.objs.size) wr Pq pz Fq href) ∧
          (∀ a h₅ tk gs, gs.bare = true → s₄.heap.objs.size < a → h₅.objs.size = a + 1 → (∀ b o, s₄.heap.get? b = some o → h₅.get? b = some o) →
            WalksS X.prog X.w X.A.in4 a (a :: s₄.heap.objs.size :: List.range s₄.heap.objs.size) (s₄.heap.objs.size :: wr) (GenOnlyQ s₄.gens.size) (passing pz n₀ 0).length
              (fun j y => ∃ i, (passing pz n₀ 0)[j]? = some i ∧ Fq i y) (GenAt X.prog X.w X.A.in4 a s₄.gens.size s₄.heap.objs.size (List.range s₄.heap.objs.size) wr pz n₀ Fq) →
            GenAt X.prog X.w X.A.in4 a s₄.gens.size s₄.heap.objs.size (List.range s₄.heap.objs.size) wr pz n₀ Fq 0 { s₄ with gens := s₄.gens.push gs, toks := tk, heap := h₅ } →
            Q' (.ref a) { s₄ with gens := s₄.gens.push gs, toks := tk, heap := h₅ })) X.xe { s1 with heap := h3, toks := tk } := by
    intro code h3 tk ps' hx hsz atP3 hmore ht3
    have keep3 : ∀ b u, b ≠ P → s1.heap.get? b = some u → h3.get? b = some u := fun b u hb e => hx b u hb (Heap.get?_push_of_some _ e)
    have nsG : h3.Ns mainGlobals X.mg := ((I1.mod.glob.keeps I1.bk).push o).extBut hx TB.gP
    have lt3 : s1.heap.objs.size < h3.objs.size := by omega
    refine wpAny_builtinsFor (m := X.mg) (by rw [I1.ok.glob]; exact nsG) e1 e2 (keep3 _ _ e4 (I1.bk _ _ e5)) e6 e7 e8 ?_
    refine ⟨s1.heap.objs.size, fp, [s1.heap.objs.size], n, Pf, St, (fun _ => true), F, rfl, W, ?_, ?_, nolim.extBut hx notP, ?_, ?_, ?_⟩
    · exact (W X.A hr.hd).frame _ _ _ hst fun b hb u e => hx b u (hfp b hb).2 e
    · intro b hb
      exact Nat.lt_of_le_of_lt (hfp b hb).1 lt3
    · intro z
      rw [List.mem_singleton] at z
      exact Nat.ne_of_lt stLt z
    · intro href hhref
      refine ⟨fun A' E' i v s₂ m₂ hA hPv hn hm hk => ?_, fun A' E' i v s₂ m₂ hA hPv hp hn hm hk => ?_⟩
      · simp only [List.forIn_nil]
        exact wpAny_pure ⟨rfl, GxR.keeps_refl _⟩
      · refine hel _ A' E' i v s₂ m₂ rfl I1.ok.glob hPv hn hm ?_
        have gl : mainGlobals < h3.objs.size := nsG.lt
        have gl1 : mainGlobals < s1.heap.objs.size := (I1.mod.glob.keeps I1.bk).lt
        refine nsG.at' fun u e => hk mainGlobals (List.mem_range.mpr gl) ?_ u (hhref _ _ e)
        intro z
        rw [List.mem_singleton] at z
        exact Nat.ne_of_lt gl1 z
    · intro g h5 tk5 gs hgb hag hsz5 hk5 W5 hat
      simp only [GxR.passing_true, List.length_range] at W5
      refine hQ g _ ⟨_, _, _, _, _, W5, ?_, hat, ?_, List.mem_cons_self, fun i s9 h9 => h9.1.typeIs, fun s' hm => ?_⟩
      · rintro j v ⟨i, hij, hf⟩
        obtain ⟨hj, ej⟩ := List.getElem?_eq_some_iff.mp hij
        rw [List.getElem_range] at ej
        subst ej
        exact hf
      · intro b hb
        show b < h5.objs.size
        have e5 : h5.objs.size = g + 1 := hsz5
        have h8 : h3.objs.size < g := hag
        rw [e5]
        rcases List.mem_cons.mp hb with z | z
        · rw [z]; exact Nat.lt_succ_self g
        · rcases List.mem_cons.mp z with z | z
          · rw [z]; exact Nat.lt_succ_of_lt h8
          · have z2 : b < h3.objs.size := List.mem_range.mp z
            exact Nat.lt_succ_of_lt (Nat.lt_trans z2 h8)
      · obtain ⟨more, em⟩ := hmore
        have nwr : ∀ b u, s1.heap.get? b = some u → b ∉ h3.objs.size :: [s1.heap.objs.size] := fun b u e hb => by
          have hl := Heap.lt_size e
          rcases List.mem_cons.mp hb with z | z
          · rw [z] at hl
            exact absurd (Nat.lt_trans hl lt3) (Nat.lt_irrefl _)
          · rw [List.mem_singleton] at z
            rw [z] at hl
            exact Nat.lt_irrefl _ hl
        have J := GxR.inv_tab (more := more) (h' := s'.heap) (g' := s'.gens) (d' := s'.drawn) (t' := s'.toks) I1 hP (fun b u hb e => hm.heap b u (nwr b u e) (hk5 b u (keep3 b u hb e)))
          (by rw [← em]; exact hm.heap P _ (nwr P _ atP) (hk5 P _ atP3)) (AllBare.movedS (I1.bare.push hgb) hm)
        rw [GxR.sh_eta s1 s' hm.os] at J
        exact ⟨upd H1 P (.tbl (ps ++ more)), ⟨⟨ps ++ more, upd_same, by rw [← em]; exact ht3⟩, fun b hb => upd_ne hb⟩, J⟩
  refine ⟨nolim, ?_⟩
  cases hf : codeAmong gpos ps.toList with
  | none =>
    refine wpAny_genexprCodeX hcode (cd.code atP2 ht) (cd.tab atP2) hf fun c' h' tk hx hge hlt hco' _ htab' _ => ?_
    obtain ⟨o1, vs, f1, tf, fl, tg, inF, tx, tt, op, _, _, _, _, _, _, _, _, _, htr, _⟩ := hco'
    exact rest _ h' tk _ hx (Nat.le_trans hge (Nat.le_of_lt hlt)) htab'.2 ⟨_, rfl⟩ htr
  | some cv =>
    refine wpAny_genexprCode_hit hcode (cd.code atP2 ht) hf ?_
    exact rest cv (s1.heap.push o) s1.toks ps (Heap.ExtBut.refl _ _) (Nat.le_refl _) atP2 ⟨#[], by simp⟩ ht
end

/-! ### behind it the def's table may have grown -/
section
variable {g : G} {μ : List Addr} {S : Store} {H H2 : Hp} {P : Addr}
theorem Le.tab {K : PySem.W.Frag} (t : GxR.TabG H P) (h : GxR.Tabbed P H H2) : Le K H H2 := by
  obtain ⟨ps, e, _⟩ := t
  rintro a vs ((q | ⟨o, q⟩) | q)
  · exact .inl (.inl ((h.2 a fun z => by rw [z, e] at q; cases q).trans q))
  · exact .inl (.inr ⟨o, (h.2 a fun z => by rw [z, e] at q; cases q).trans q⟩)
  · exact .inr q
theorem RS.tab (rs : RS g μ S H) (t : GxR.TabG H P) (hu : ∀ p ∈ g.T, p.1 = P → p.2 = none) (h : GxR.Tabbed P H H2) : RS g μ S H2 := by
  have l : Le g.K H H2 := .tab t h
  obtain ⟨ps, e, _⟩ := t
  have same : ∀ {a : Addr} {o : HO}, H a = some o → (∀ ps, o ≠ .tbl ps) → H2 a = some o := fun {a o} q n => (h.2 a fun z => by
    rw [z, e] at q
    exact n ps (Option.some.inj q).symm).trans q
  refine ⟨rs.len, rs.nd, fun l' a o h1 h2 => ?_, fun p hp => ?_⟩
  · have r := rs.obj l' a o h1 h2
    cases o with
    | lst xs => obtain ⟨vs, q, rr⟩ := r; exact ⟨vs, same q (fun _ z => by cases z), rr.mono .refl l⟩
    | rol xs =>
      obtain ⟨vs, q, rr⟩ := r
      refine ⟨vs, ?_, rr.mono .refl l⟩
      rcases q with ⟨o, q⟩ | q
      · exact .inl ⟨o, same q (fun _ z => by cases z)⟩
      · exact .inr q
    | dic kvs => obtain ⟨ks, q, rr⟩ := r; exact ⟨ks, same q (fun _ z => by cases z), rr.mono .refl l⟩
    | ins c fs => obtain ⟨C, dx, vs, q1, q, rr⟩ := r; exact ⟨C, dx, vs, q1, same q (fun _ z => by cases z), rr.mono .refl l⟩
    | lam j => obtain ⟨c, q1, q2⟩ := r; exact ⟨c, same q1 (fun _ z => by cases z), same q2 (fun _ z => by cases z)⟩
  · obtain ⟨P', q'⟩ := p
    by_cases z : P' = P
    · have e9 := hu _ hp z
      have e9 : q' = none := e9
      subst e9 z
      exact h.1
    · have old := rs.tabs _ hp
      cases q' with
      | none =>
        obtain ⟨qs, q, tq⟩ := old
        exact ⟨qs, (h.2 P' z).trans q, tq⟩
      | some q9 =>
        obtain ⟨qs, q, tq, n⟩ := old
        refine ⟨qs, (h.2 P' z).trans q, tq, fun pos cv hc => ?_⟩
        obtain ⟨c, e1, e2⟩ := n pos cv hc
        exact ⟨c, e1, same e2 (fun _ z => by cases z)⟩
end

/-! ### the items: texts -/
def Pz (items : List (List Nat)) (i : Nat) (v : Value) : Prop := ∃ (a : List Nat) (t : Tok), items[i]? = some a ∧ v = .str ⟨a.toArray⟩ t
section
variable {X : Cx} {g : G} {W : WX} {scope : Scope} {x y : Str} {px py pc p3 : Pos} {j : Nat} {items : List (List Nat)}
/-- x in 'k' -/
theorem elq_inC (k : List Nat) (hk : scope.kind = .function) (hl : scope.names.lookup x = some .local) (h1 : ∀ a ∈ items, ∃ c, a = [c]) {z : Str} (hz : z = ⟨k.toArray⟩ := by decide +kernel) (hd : (x == ("__debug__" : Str)) = false := by decide) :
    ElQ X scope x (.Compare (.Name x px) [.In] [.Constant (.str z) j pc] p3) (Pz items) fun i v => ∃ c, items[i]? = some [c] ∧ v = .bool (decide (c ∈ k)) := by
  subst hz
  intro cenv A' E' i v s₂ m₂ hs hg hp hn hm hG
  obtain ⟨a, t, ha, rfl⟩ := hp
  obtain ⟨c, rfl⟩ := h1 a (List.mem_of_getElem? ha)
  refine wpAny_Compare1 ?_ (by first | rfl | exact nomark _)
  refine wpAny_Name (wpAny_loadName_local (by rw [hs]; exact hk) (show cenv.scope.names.lookup x = some .local by rw [hs]; exact hl) hn hm ?_) hd
  apply Calls.Constant_str
  refine PyProof.Rows.in_str ?_
  refine ⟨⟨c, ha, ?_⟩, GxR.keeps_tok _ _⟩
  have := PySem.StrLaws.found_one (⟨k.toArray⟩ : Str) c
  rw [scps] at this
  first
    | exact congrArg Value.bool this
    | (rw [this])
/-- x in y, y a text of the module -/
theorem elq_inG (k : List Nat) (hk : scope.kind = .function) (hl : scope.names.lookup x = some .local) (hy : scope.names.lookup y = some .globalImplicit) (hm' : ∃ t, X.mg y = some (.str ⟨k.toArray⟩ t)) (h1 : ∀ a ∈ items, ∃ c, a = [c]) (hd : (x == ("__debug__" : Str)) = false := by decide) (hd2 : (y == ("__debug__" : Str)) = false := by decide) :
    ElQ X scope x (.Compare (.Name x px) [.In] [.Name y py] p3) (Pz items) fun i v => ∃ c, items[i]? = some [c] ∧ v = .bool (decide (c ∈ k)) := by
  intro cenv A' E' i v s₂ m₂ hs hg hp hn hm hG
  obtain ⟨a, t, ha, rfl⟩ := hp
  obtain ⟨c, rfl⟩ := h1 a (List.mem_of_getElem? ha)
  obtain ⟨t', hm'⟩ := hm'
  refine wpAny_Compare1 ?_ (by first | rfl | exact nomark _)
  refine wpAny_Name (wpAny_loadName_local (by rw [hs]; exact hk) (show cenv.scope.names.lookup x = some .local by rw [hs]; exact hl) hn hm ?_) hd
  refine Calls.Name_function_global (by rw [hs]; exact hk) (show cenv.scope.names.lookup y = some .globalImplicit by rw [hs]; exact hy) (Calls.loadGlobal_global (by rw [hg]; exact hG) hm' ?_) hd2
  refine PyProof.Rows.in_str ?_
  refine ⟨⟨c, ha, ?_⟩, GxR.keeps_refl _⟩
  have := PySem.StrLaws.found_one (⟨k.toArray⟩ : Str) c
  rw [scps] at this
  first
    | exact congrArg Value.bool this
    | (rw [this])
/-- 'k' + x -/
theorem elq_addC (k : List Nat) (hk : scope.kind = .function) (hl : scope.names.lookup x = some .local) (h1 : ∀ a ∈ items, k.length + a.length ≤ LINE) {z : Str} (hz : z = ⟨k.toArray⟩ := by decide +kernel) (hd : (x == ("__debug__" : Str)) = false := by decide) :
    ElQ X scope x (.BinOp (.Constant (.str z) j pc) .Add (.Name x px) p3) (Pz items) fun i v => ∃ (a : List Nat) (t : Tok), items[i]? = some a ∧ v = .str ⟨(k ++ a).toArray⟩ t := by
  subst hz
  intro cenv A' E' i v s₂ m₂ hs hg hp hn hm hG
  obtain ⟨a, t, ha, rfl⟩ := hp
  have hz := h1 a (List.mem_of_getElem? ha)
  apply wpAny_BinOp
  apply Calls.Constant_str
  refine wpAny_Name (wpAny_loadName_local (by rw [hs]; exact hk) (show cenv.scope.names.lookup x = some .local by rw [hs]; exact hl) hn hm ?_) hd
  refine PyProof.Rows.add_str (fun t' tk => ?_) (by rw [slen, slen, line_eq]; exact hz)
  rw [sapp]
  exact ⟨⟨a, t', ha, rfl⟩, GxR.keeps_tok _ _⟩
end
/-! ### the texts that are walked -/
/-- what a text or a tuple of texts hands on -/
def itemsQ : PV → Option (List (List Nat))
  | .str s => some (s.map fun c => [c])
  | .tup xs => strsOf xs
  | _ => none
section
variable {X : Cx} {pins : List (Addr × Obj)} {σ : St} {H : Hp} {s : Shared} {g : G} {W : WX} {c P : Addr} {elt iter : Expr} {x : Str} {px p pos gpos : Pos} {scope : Scope} {k : Nat} {F : Nat → Value → Prop} {Q' : Value → Shared → Prop} {items : List (List Nat)} {v : PV} {xv : Value} {y : V} {μ : List Addr}
/-- the generator expression over what has come -/
theorem gen_over (hK : X.K = g.K) (hr : Room k X.A) (TB : GxR.TabB X.base X.mg c P) (hcode : X.env.code = .ref c) (S : GxR.GenS X.env scope x) (hel : ElQ X scope x elt (Pz items) F) (I : Inv X pins σ H s) (rv : Rp g.K μ H v y) (r1 : RelV y xv) (hit : itemsQ v = some items) (tG : GxR.TabG H P)
    (hQ : ∀ g' s5, ReadyG X pins σ H P items.length F g' s5 → Q' (.ref g') s5) :
    wpAny (model X.prog X.w) X.A (pyIter xv) (fun it s₂ => s₂.heap.NoLimit ∧
      wpAny (model X.prog X.w) X.A (genexprCode X.env gpos (X.env.qual ++ "<genexpr>") scope) (fun code s₃ => wpAny (model X.prog X.w) X.A (builtinsFor X.env.globals X.env.builtins) (fun bi s₄ =>
        ∃ I fp wr n₀ P St₀ pz F, it = .ref I ∧ (∀ A' : Around, A'.handled = none → Walks X.prog X.w A' I fp wr n₀ P St₀) ∧ St₀ 0 s₄.heap ∧ (∀ b ∈ fp, b < s₄.heap.objs.size) ∧ s₄.heap.NoLimit ∧ cStatics ∉ wr ∧
          (∀ href : Heap, (∀ b o, s₄.heap.get? b = some o → href.get? b = some o) →
            QuietGen X.prog X.w (genEnv scope (cloFrom X.env.cells scope.names []) s₄.heap.objs.size code bi X.env) x [] elt (List.range s₄.heap.objs.size) wr P pz F href) ∧
          (∀ a h₅ tk gs, gs.bare = true → s₄.heap.objs.size < a → h₅.objs.size = a + 1 → (∀ b o, s₄.heap.get? b = some o → h₅.get? b = some o) →
            WalksS X.prog X.w X.A.in4 a (a :: s₄.heap.objs.size :: List.range s₄.heap.objs.size) (s₄.heap.objs.size :: wr) (GenOnlyQ s₄.gens.size) (passing pz n₀ 0).length
              (fun j y => ∃ i, (passing pz n₀ 0)[j]? = some i ∧ F i y) (GenAt X.prog X.w X.A.in4 a s₄.gens.size s₄.heap.objs.size (List.range s₄.heap.objs.size) wr pz n₀ F) →
            GenAt X.prog X.w X.A.in4 a s₄.gens.size s₄.heap.objs.size (List.range s₄.heap.objs.size) wr pz n₀ F 0 { s₄ with gens := s₄.gens.push gs, toks := tk, heap := h₅ } →
            Q' (.ref a) { s₄ with gens := s₄.gens.push gs, toks := tk, heap := h₅ })) X.xe s₃) X.xe s₂) X.xe s := by
  obtain ⟨ps, hP, ht⟩ := tG
  have atP : s.heap.get? P = some { cls := .none, data := .fields ps } := I.hok P _ hP
  have ltP : P < s.heap.objs.size := Heap.lt_size atP
  unfold itemsQ at hit
  split at hit
  · rename_i z
    cases hit
    cases rv
    obtain ⟨t, rfl⟩ := r1
    refine wpAny_pyIter_str fun o St Wk hst => ?_
    have en : ((z.map fun c => [c]) : List (List Nat)).length = (⟨z.toArray⟩ : Str).cps.size := by simp
    refine gen_core (n := (z.map fun c => [c]).length) (fp := [s.heap.objs.size]) hr TB hcode S I hP ht (fun A' hA => ?_) hst (fun b hb => ?_) hel hQ
    · have w0 := Wk A' hA
      rw [en]
      refine w0.weaken fun i v' hv => ?_
      obtain ⟨cc, u, hcc, rfl⟩ := hv
      refine ⟨[cc], u, ?_, rfl⟩
      rw [List.getElem?_map]
      have e9 : z[i]? = some cc := by simpa using hcc
      rw [e9]; rfl
    · rw [List.mem_singleton] at hb
      rw [hb]
      exact ⟨Nat.le_refl _, Nat.ne_of_gt ltP⟩
  · rename_i xs
    cases rv with
    | @tup ta _ _ h r =>
      obtain rfl : xv = Value.ref ta := r1
      have hv := strsOf_vals r hit
      subst hv
      obtain ⟨its, rvs, hl, hz⟩ := I.tuple (hK ▸ h)
      have hT : s.heap.IsTuple ta its.toArray := hl
      obtain ⟨ot, hot, hcls, _⟩ := id hT
      have lt : _ < s.heap.objs.size := Heap.lt_size hot
      have hlen : its.toArray.size = items.length := by
        have := rvs.length
        simp at this
        simpa using this.symm
      refine wpAny_pyIter_tuple hT ?_
      refine gen_core (n := items.length) (fp := [s.heap.objs.size, ta]) (St := fun i h' => h'.IsTupleIter s.heap.objs.size ta i ∧ h'.IsTuple ta its.toArray) hr TB hcode S I hP ht (fun A' hA => ?_) ⟨⟨_, Heap.get?_push_size _ rfl, rfl, rfl⟩, hT.push _⟩ (fun b hb => ?_) hel hQ
      · rw [← hlen]
        refine (Walks.tuple hA _ _ (Nat.ne_of_lt lt) _).weaken fun i v' hv => ?_
        have hv2 : its[i]? = some v' := by simpa using hv
        have hi2 : i < its.length := (List.getElem?_eq_some_iff.mp hv2).1
        have hl2 : its.length = items.length := by simpa using hlen
        obtain ⟨u, hu, ru⟩ := rvs.get (i := i) (x := V.str ⟨(items[i]'(by omega)).toArray⟩) (by rw [List.getElem?_map, List.getElem?_map, List.getElem?_eq_getElem (by omega)]; rfl)
        rw [hv2] at hu
        cases hu
        obtain ⟨t, e⟩ := ru
        exact ⟨_, t, List.getElem?_eq_getElem _, e⟩
      · rcases List.mem_cons.mp hb with z | z
        · rw [z]; exact ⟨Nat.le_refl _, Nat.ne_of_gt ltP⟩
        · rw [List.mem_singleton] at z
          rw [z]
          refine ⟨Nat.le_of_lt lt, fun e => ?_⟩
          rw [e, atP] at hot
          cases hot
          cases hcls
  · cases hit
/-- the generator expression as an argument -/
theorem gen_arg {fi : EF} (hK : X.K = g.K) (hr : Room k X.A) (TB : GxR.TabB X.base X.mg c P) (hT : (P, none) ∈ g.T) (huT : ∀ p ∈ g.T, p.1 = P → p.2 = none) (hcode : X.env.code = .ref c) (S : GxR.GenS X.env scope x) (hi : SE X g W iter fi) (hs : ∀ v, genFold iter X.env v = pure v) (I : Inv X pins σ H s)
    (h : tEv g W fi σ H fun y H1 => ∃ (μ : List Addr) (v : PV) (S1 : Store) (items : List (List Nat)) (F : Nat → Value → Prop), RS g μ S1 H1 ∧ Rp g.K μ H1 v y ∧ itemsQ v = some items ∧ ElQ X scope x elt (Pz items) F ∧ ∀ g' s5, ReadyG X pins σ H1 P items.length F g' s5 → Q' (.ref g') s5) :
    wpAny (model X.prog X.w) X.A (eval (.GeneratorExp elt [⟨.Name x px, iter, [], 0⟩] scope gpos) X.env) Q' X.xe s := by
  refine wpAny_GeneratorExp_walksQ hr.hd S.co (closure_ok S.free) S.cell S.dot S.loc S.kind (by have := hr.dp; omega) ?_ hs
  refine thn (hi.run pins s σ H _ I h) ?_
  rintro xv s1 ⟨y, H1, I1, r1, μ, v, S1, items, F, rs, rv, hit, hel, hQ⟩
  exact gen_over hK hr TB hcode S hel I1 rv r1 hit (rs.tabs _ hT) hQ
/-- a test of a sign -/
def EQb (X : Cx) (scope : Scope) (x : Str) (elt : Expr) (p : Nat → Bool) : Prop := ∀ items : List (List Nat), (∀ a ∈ items, ∃ c, a = [c]) → ElQ X scope x elt (Pz items) fun i v => ∃ c, items[i]? = some [c] ∧ v = .bool (p c)
def eAllS (fi : EF) (p : Nat → Bool) : EF := fun ρ S => (fi ρ S).bind fun v S1 => match v with
  | .str s => .ok (.bl (s.all p)) S1
  | _ => .bad
theorem se_allS {fi : EF} {p : Nat → Bool} {pn : Pos} (hK : X.K = g.K) (hr : Room k X.A) (hg : Gl X "all") (hm : X.mg "all" = none) (hb : bootBuiltins "all" = some (.builtin "all")) (TB : GxR.TabB X.base X.mg c P) (hT : (P, none) ∈ g.T) (huT : ∀ p ∈ g.T, p.1 = P → p.2 = none) (hcode : X.env.code = .ref c) (S : GxR.GenS X.env scope x)
    (hi : SE X g W iter fi) (hel : EQb X scope x elt p) (hs : ∀ v, genFold iter X.env v = pure v)
    (he : starEach [.GeneratorExp elt [⟨.Name x px, iter, [], 0⟩] scope gpos] X.env = (false, eval (.GeneratorExp elt [⟨.Name x px, iter, [], 0⟩] scope gpos) X.env) :: starEach [] X.env := by rfl) :
    SE X g W (.Call (.Name "all" pn) [.GeneratorExp elt [⟨.Name x px, iter, [], 0⟩] scope gpos] [] pos) (eAllS fi p) := by
  constructor
  intro pins s σ H Q I h
  refine wpAny_Call_Name_kw (ld_blt I hg hm hb ?_)
  refine PyProof.Rows.callWith_builtin1 ?_ he (by rfl)
  rw [he]
  show wpAny _ _ (spliced ((false, eval (.GeneratorExp elt [⟨.Name x px, iter, [], 0⟩] scope gpos) X.env) :: backTo pos (starEach [] X.env))) _ _ s
  apply Calls.spliced_cons
  refine gen_arg hK hr TB hT huT hcode S hi hs I ?_
  obtain ⟨μ, ρ, S0, re, rs, p0⟩ := h
  refine ⟨μ, ρ, S0, re, rs, (Post.bind (r := fi ρ S0) p0).imp fun y H1 ⟨μ1, v, S1, p1, l1, rs1, rv, q⟩ => ?_⟩
  split at q
  · rename_i z
    refine ⟨μ1, _, S1, z.map (fun c => [c]), _, rs1, rv, rfl, hel _ ?_, ?_⟩
    · intro a ha
      obtain ⟨cc, _, e⟩ := List.mem_map.mp ha
      exact ⟨cc, e.symm⟩
    · rintro g' s5 ⟨fp, wr, Gg, F', St, Wk, hF, hst, _, _, _, hI⟩
      apply Calls.spliced_nil
      refine call_all_walkS (Wk.in4_1.self 0 _ _ _ hst ⟨g', fp, wr, Gg, _, F', St, GxR.trF p z, rfl, Wk.in4_1, hst, ?_, fun s' hmv => ?_⟩)
      · intro jj yv sj Qj Ej hy hQj
        obtain ⟨cc, hcc, rfl⟩ := hF jj yv hy
        rw [List.getElem?_map] at hcc
        have e9 : z[jj]? = some cc := by
          cases ez : z[jj]? with
          | none => rw [ez] at hcc; cases hcc
          | some d => rw [ez] at hcc; cases hcc; rfl
        have hQ2 : Qj (GxR.trF p z jj) sj := hQj
        rw [GxR.trF_some e9] at hQ2
        exact wpAny_truthy_bool hQ2
      · obtain ⟨H2, hTb, J⟩ := hI s' hmv
        refine ⟨.bl _, H2, J, rfl, ?_⟩
        rw [List.length_map, GxR.all_trF]
        have tG : GxR.TabG H1 P := rs1.tabs _ hT
        exact q μ1 _ H2 .refl (.tab tG hTb) (rs1.tab tG huT hTb) (.bl _)
  · exact q.elim
/-- tuple('k' + x for x in ..) -/
def eTupS (fi : EF) (kk : List Nat) : EF := fun ρ S => (fi ρ S).bind fun v S1 => match itemsQ v with
  | some items => if (items.all fun a => decide (kk.length + a.length ≤ LINE)) && decide (items.length ≤ LINE) then .ok (.tup (items.map fun a => PV.str (kk ++ a))) S1 else .bad
  | none => .bad
def EQs (X : Cx) (scope : Scope) (x : Str) (elt : Expr) (kk : List Nat) : Prop := ∀ items : List (List Nat), (∀ a ∈ items, kk.length + a.length ≤ LINE) → ElQ X scope x elt (Pz items) fun i v => ∃ (a : List Nat) (t : Tok), items[i]? = some a ∧ v = .str ⟨(kk ++ a).toArray⟩ t
theorem strs_at {ws : List (List Nat)} : ∀ {acc : List Value}, acc.length = ws.length → (∀ (i : Nat) (v : Value), acc[i]? = some v → ∃ (a : List Nat) (t : Tok), ws[i]? = some a ∧ v = Value.str ⟨a.toArray⟩ t) → Vals (ws.map fun a => V.str ⟨a.toArray⟩) acc := by
  induction ws with
  | nil => intro acc hl _; cases acc with | nil => exact .nil | cons a b => cases hl
  | cons w ws ih =>
    intro acc hl h
    cases acc with
    | nil => cases hl
    | cons a acc =>
      obtain ⟨b, t, h1, h2⟩ := h 0 a rfl
      cases h1
      exact .cons ⟨t, h2⟩ (ih (Nat.succ.inj hl) fun i v e => h (i + 1) v e)
theorem Rps.strs {K : PySem.W.Frag} {μ : List Addr} {H : Hp} : ∀ (ws : List (List Nat)), Rps K μ H (ws.map PV.str) (ws.map fun a => V.str ⟨a.toArray⟩)
  | [] => .nil
  | a :: ws => .cons (.str a) (Rps.strs ws)
theorem se_tupS {fi : EF} {kk : List Nat} {pn : Pos} (hK : X.K = g.K) (hr : Room k X.A) (hg : Gl X "tuple") (hm : X.mg "tuple" = none) (hb : bootBuiltins "tuple" = some (.type "tuple")) (TB : GxR.TabB X.base X.mg c P) (hT : (P, none) ∈ g.T) (huT : ∀ p ∈ g.T, p.1 = P → p.2 = none) (hcode : X.env.code = .ref c) (S : GxR.GenS X.env scope x)
    (hi : SE X g W iter fi) (hel : EQs X scope x elt kk) (hs : ∀ v, genFold iter X.env v = pure v)
    (he : starEach [.GeneratorExp elt [⟨.Name x px, iter, [], 0⟩] scope gpos] X.env = (false, eval (.GeneratorExp elt [⟨.Name x px, iter, [], 0⟩] scope gpos) X.env) :: starEach [] X.env := by rfl) :
    SE X g W (.Call (.Name "tuple" pn) [.GeneratorExp elt [⟨.Name x px, iter, [], 0⟩] scope gpos] [] pos) (eTupS fi kk) := by
  constructor
  intro pins s σ H Q I h
  refine wpAny_Call_Name_kw (ld_blt I hg hm hb ?_)
  refine PyProof.Rows.callWith_type1 ?_ he (by rfl)
  rw [he]
  show wpAny _ _ (spliced ((false, eval (.GeneratorExp elt [⟨.Name x px, iter, [], 0⟩] scope gpos) X.env) :: backTo pos (starEach [] X.env))) _ _ s
  apply Calls.spliced_cons
  refine gen_arg hK hr TB hT huT hcode S hi hs I ?_
  obtain ⟨μ, ρ, S0, re, rs, p0⟩ := h
  refine ⟨μ, ρ, S0, re, rs, (Post.bind (r := fi ρ S0) p0).imp fun y H1 ⟨μ1, v, S1, p1, l1, rs1, rv, q⟩ => ?_⟩
  split at q
  · rename_i items hit
    split at q
    · rename_i hc
      rw [Bool.and_eq_true, List.all_eq_true] at hc
      have hlen := of_decide_eq_true hc.2
      refine ⟨μ1, v, S1, items, _, rs1, rv, hit, hel _ fun a ha => of_decide_eq_true (hc.1 a ha), ?_⟩
      rintro g' s5 ⟨fp, wr, Gg, F', St, Wk, hF, hst, hfp, hgm, hty, hI⟩
      apply Calls.spliced_nil
      refine call_tuple_gen (WalksS.in4_3 Wk) hty hst hfp hgm (fun s' acc hmv hacc => ?_) (by rw [line_eq]; exact hlen)
      obtain ⟨H2, hTb, J⟩ := hI s' hmv
      have tG : GxR.TabG H1 P := rs1.tabs _ hT
      have hv : Vals ((items.map fun a => kk ++ a).map fun a => V.str ⟨a.toArray⟩) acc.toList := by
        refine strs_at (by have := hacc.1; simp [this]) fun i v' e => ?_
        obtain ⟨a, t, e1, e2⟩ := hF i v' (hacc.2 i v' (by rw [← Array.getElem?_toList]; exact e))
        exact ⟨kk ++ a, t, by rw [List.getElem?_map, e1]; rfl, e2⟩
      have hfr : H2 s'.heap.objs.size = none := J.hok.fresh (Nat.le_refl _)
      refine ⟨.ref s'.heap.objs.size, upd H2 s'.heap.objs.size (.tup ((items.map fun a => kk ++ a).map fun a => V.str ⟨a.toArray⟩)), J.laid (t' := s'.toks) (fun c o e => Heap.get?_push_of_some _ e) (Nat.le_refl _)
        (show ObjOk X.prog X.w _ _ _ (.tup ((items.map fun a => kk ++ a).map fun a => V.str ⟨a.toArray⟩)) from ⟨by rw [List.length_map, List.length_map, line_eq]; exact hlen, acc.toList, hv, by rw [Array.toArray_toList]; exact IsTup.new _ _⟩), rfl, ?_⟩
      have rs2 := rs1.tab tG huT hTb
      refine q μ1 _ _ .refl ((Le.tab tG hTb).trans (.upd (.none hfr))) (rs2.laid hfr) ?_
      have r := Rp.newT (g := g) (μ := μ1) hfr (Rps.strs (K := g.K) (μ := μ1) (H := H2) (items.map fun a => kk ++ a))
      have e9 : (items.map fun a => kk ++ a).map PV.str = items.map fun a => PV.str (kk ++ a) := by rw [List.map_map]; rfl
      rw [e9] at r
      exact r
    · exact q.elim
  · exact q.elim
end
end Ev


/-! Ev: lambdas as values, try. -/
namespace Ev
open PySem PySem.Spec PyProof.Rows L2
/-! ### a lambda made -/
section
variable {X : Cx} {pins : List (Addr × Obj)} {σ : L2.St} {H : Hp} {s : Shared} {g : G} {W : WX} {pos : Pos}
theorem ext_ok {P : Program} {w : World} {H : Hp} {h : Heap} {t : LamT} {f c : Addr} {pm ctv : Value} (e : h.get? f = some (PySem.W.kla_obj "<lambda>" t.q t.params t.body t.scope [] pm c ctv)) : ObjOk P w H h f (LamO t f c) :=
  ⟨⟨pm, ctv, e⟩, ⟨_, e⟩, fun h1 h2 ⟨pm, ctv, a⟩ st => ⟨pm, ctv, st _ a⟩⟩
theorem lam_made {c P : Addr} {t : LamT} {E : Value → Shared → Prop} {Q : Value → Shared → Prop} (I : Inv X pins σ H s) (TB : LamX.TabB X.base X.mg c P) (hcode : X.env.code = .ref c)
    (hq : t.q = X.env.qual ++ "<lambda>") (tS : LamX.TabS H P t.q) (hdef : defaultsOf t.params X.env = ([], [])) (hnf : ∀ y ∈ t.scope.names, y.2 ≠ .free) (hcl : cloFrom X.env.cells t.scope.names [] = [])
    (h : ∀ (f c' : Addr) (H1 : Hp) (s' : Shared), Inv X pins σ H1 s' → (∀ b o, b ≠ P → H b = some o → H1 b = some o) → LamX.TabS H1 P t.q → H1 f = some (LamO t f c') → H1 c' = some (LamX.CodeO c' t.q) → H f = none → Q (.ref f) s') :
    wpAny (model X.prog X.w) X.A (eval (.Lambda t.params t.body t.scope pos) X.env) Q E s := by
  obtain ⟨ps, hP, ht, ha⟩ := tS
  refine PySem.W.kla_eval hdef ?_
  have bP : s.heap.BuiltinsAt X.mg P := TB.bm.keeps I.bk
  have atP : s.heap.get? P = some { cls := .none, data := .fields ps } := I.hok P _ hP
  have hfree : ∀ y ∈ t.scope.names, y.2 = .free → ∃ c, X.env.cells.lookup y.1 = some c := fun y hy e => absurd e (hnf y hy)
  cases hc : codeAmong pos ps.toList with
  | none =>
    refine PySem.W.kla_makeFunction (mg := X.mg) (c := c) (P := P) (ps := ps) (closure_ok hfree) I.ok.glob (I.mod.glob.keeps I.bk) hcode (TB.code.keeps I.bk) atP ht hc TB.gP bP fun c' ctv h' tk hx hge hlt hrec htb => ?_
    obtain ⟨c2, oc, vs, t9, e2, hoc, hd, hv⟩ := hrec
    cases e2
    have hsz : s.heap.objs.size ≤ h'.objs.size := Nat.le_trans hge (Nat.le_of_lt hlt)
    have nC : H c' = none := I.hok.fresh hge
    have hv' : vs[1]? = some (.str t.q t9) := by rw [hq]; exact hv
    have I1 := LamX.inv_table (q := t.q) (t' := tk) (more := #[rawInt pos.line, rawInt pos.col, .ref c']) (h' := h') I hP (fun b o hb e => hx b o hb e) htb hge ⟨oc, vs, t9, hoc, hd, hv'⟩
    have nF : H h'.objs.size = none := I.hok.fresh hsz
    have n1 : h'.objs.size ≠ c' := Nat.ne_of_gt hlt
    have n2 : h'.objs.size ≠ P := Nat.ne_of_gt (Nat.lt_of_lt_of_le (Heap.lt_size atP) hsz)
    have eF : (h'.push (PySem.W.kla_obj "<lambda>" (X.env.qual ++ "<lambda>") t.params t.body t.scope (cloFrom X.env.cells t.scope.names []) ((X.mg "__name__").getD .none) c' ctv)).get? h'.objs.size = some (PySem.W.kla_obj "<lambda>" t.q t.params t.body t.scope [] ((X.mg "__name__").getD .none) c' ctv) := by
      rw [hcl, hq]
      exact Heap.get?_push_size _ rfl
    have I2 := I1.laid (t' := tk) (a := h'.objs.size) (o := LamO t h'.objs.size c') (fun b o e => Heap.get?_push_of_some (PySem.W.kla_obj "<lambda>" (X.env.qual ++ "<lambda>") t.params t.body t.scope (cloFrom X.env.cells t.scope.names []) ((X.mg "__name__").getD .none) c' ctv) e) (Nat.le_refl _) (ext_ok eF)
    have old : ∀ b o, b ≠ P → H b = some o → upd (upd (upd H P (.tbl (ps ++ #[rawInt pos.line, rawInt pos.col, .ref c']))) c' (LamX.CodeO c' t.q)) h'.objs.size (LamO t h'.objs.size c') b = some o := fun b o hb e => by
      rw [upd_ne (ne_of_none e nF), upd_ne (ne_of_none e nC), upd_ne hb]
      exact e
    have nPc : P ≠ c' := ne_of_none hP nC
    have eL : (ps ++ #[rawInt pos.line, rawInt pos.col, .ref c']).toList = ps.toList ++ [rawInt pos.line, rawInt pos.col, .ref c'] := by simp
    refine h h'.objs.size c' _ _ I2 old ⟨ps ++ #[rawInt pos.line, rawInt pos.col, .ref c'], ?_, ?_, fun p' cv hcv => ?_⟩ upd_same (by rw [upd_ne (Ne.symm n1), upd_same]) nF
    · rw [upd_ne (Ne.symm n2), upd_ne nPc, upd_same]
    · rw [eL]; exact PySem.TriplesOk_snoc _ _ _ _ ht
    · rw [eL] at hcv
      rcases LamX.among_app _ ht hcv with z | z
      · obtain ⟨c0, e1, e2⟩ := ha p' cv z
        refine ⟨c0, e1, old _ _ (fun z => ?_) e2⟩
        rw [z, hP] at e2
        exact LamX.codeO_ne ps (Option.some.inj e2).symm
      · exact ⟨c', z, by rw [upd_ne (Ne.symm n1), upd_same]⟩
  | some cv =>
    obtain ⟨c', e, hco⟩ := ha pos cv hc
    subst e
    refine PySem.W.kla_makeFunctionHit (mg := X.mg) (c := c) (P := P) (ps := ps) (closure_ok hfree) I.ok.glob (I.mod.glob.keeps I.bk) hcode (TB.code.keeps I.bk) atP ht hc bP fun ctv h' tk hx hsz => ?_
    have nF : H h'.objs.size = none := I.hok.fresh hsz
    have I1 : Inv X pins σ H { s with heap := h', toks := tk } := I.kept hx
    have eF : (h'.push (PySem.W.kla_obj "<lambda>" (X.env.qual ++ "<lambda>") t.params t.body t.scope (cloFrom X.env.cells t.scope.names []) ((X.mg "__name__").getD .none) c' ctv)).get? h'.objs.size = some (PySem.W.kla_obj "<lambda>" t.q t.params t.body t.scope [] ((X.mg "__name__").getD .none) c' ctv) := by
      rw [hcl, hq]
      exact Heap.get?_push_size _ rfl
    have I2 := I1.laid (t' := tk) (a := h'.objs.size) (o := LamO t h'.objs.size c') (fun b o e => Heap.get?_push_of_some (PySem.W.kla_obj "<lambda>" (X.env.qual ++ "<lambda>") t.params t.body t.scope (cloFrom X.env.cells t.scope.names []) ((X.mg "__name__").getD .none) c' ctv) e) (Nat.le_refl _) (ext_ok eF)
    have old : ∀ b o, H b = some o → upd H h'.objs.size (LamO t h'.objs.size c') b = some o := fun b o e => by
      rw [upd_ne (ne_of_none e nF)]
      exact e
    refine h h'.objs.size c' _ _ I2 (fun b o _ e => old b o e) ⟨ps, old _ _ hP, ht, fun p' cv' hcv => ?_⟩ upd_same (old _ _ hco) nF
    obtain ⟨c0, e1, e2⟩ := ha p' cv' hcv
    exact ⟨c0, e1, old _ _ e2⟩
end
section
variable {g : G} {μ : List Addr} {S : Store} {H H1 : Hp} {P : Addr}
theorem Le.but {K : PySem.W.Frag} {ps : Array Value} (e : H P = some (.tbl ps)) (h : ∀ b o, b ≠ P → H b = some o → H1 b = some o) : Le K H H1 := by
  rintro a vs ((q | ⟨o, q⟩) | q)
  · exact .inl (.inl (h a _ (fun z => by rw [z, e] at q; cases q) q))
  · exact .inl (.inr ⟨o, h a _ (fun z => by rw [z, e] at q; cases q) q⟩)
  · exact .inr q
theorem Ro.but {a : Addr} {so : SO} (r : Ro g μ H a so) {ps : Array Value} (e : H P = some (.tbl ps)) (h : ∀ b o, b ≠ P → H b = some o → H1 b = some o) : Ro g μ H1 a so := by
  have l : Le g.K H H1 := .but e h
  have same : ∀ {a : Addr} {o : HO}, H a = some o → (∀ ps, o ≠ .tbl ps) → H1 a = some o := fun {a o} q n => h a o (fun z => by
    rw [z, e] at q
    exact n ps (Option.some.inj q).symm) q
  cases so with
  | lst xs => obtain ⟨vs, q, rr⟩ := r; exact ⟨vs, same q (fun _ z => by cases z), rr.mono .refl l⟩
  | rol xs =>
    obtain ⟨vs, q, rr⟩ := r
    refine ⟨vs, ?_, rr.mono .refl l⟩
    rcases q with ⟨o, q⟩ | q
    · exact .inl ⟨o, same q (fun _ z => by cases z)⟩
    · exact .inr q
  | dic kvs => obtain ⟨ks, q, rr⟩ := r; exact ⟨ks, same q (fun _ z => by cases z), rr.mono .refl l⟩
  | ins c fs => obtain ⟨C, dx, vs, q1, q, rr⟩ := r; exact ⟨C, dx, vs, q1, same q (fun _ z => by cases z), rr.mono .refl l⟩
  | lam j => obtain ⟨c, q1, q2⟩ := r; exact ⟨c, same q1 (fun _ z => by cases z), same q2 (fun _ z => by cases z)⟩
theorem RS.but (rs : RS g μ S H) {q : Str} {ps : Array Value} (e : H P = some (.tbl ps)) (hu : ∀ p ∈ g.T, p.1 = P → p.2 = some q) (h : ∀ b o, b ≠ P → H b = some o → H1 b = some o) (t : LamX.TabS H1 P q) : RS g μ S H1 := by
  refine ⟨rs.len, rs.nd, fun l a o h1 h2 => (rs.obj l a o h1 h2).but e h, fun p hp => ?_⟩
  obtain ⟨P', q'⟩ := p
  by_cases z : P' = P
  · have e9 : q' = some q := hu _ hp z
    subst e9 z
    exact t
  · have old := rs.tabs _ hp
    cases q' with
    | none =>
      obtain ⟨qs, k, tq⟩ := old
      exact ⟨qs, h _ _ z k, tq⟩
    | some q9 =>
      obtain ⟨qs, k, tq, n⟩ := old
      refine ⟨qs, h _ _ z k, tq, fun pos cv hc => ?_⟩
      obtain ⟨c, e1, e2⟩ := n pos cv hc
      refine ⟨c, e1, h _ _ (fun z => ?_) e2⟩
      rw [z, e] at e2
      exact LamX.codeO_ne ps (Option.some.inj e2).symm
theorem Ro.pre {a : Addr} {so : SO} {μ' : List Addr} (r : Ro g μ H a so) (p : Pre μ μ') : Ro g μ' H a so := by
  cases so with
  | lst xs => obtain ⟨vs, q, rr⟩ := r; exact ⟨vs, q, rr.mono p .refl⟩
  | rol xs => obtain ⟨vs, q, rr⟩ := r; exact ⟨vs, q, rr.mono p .refl⟩
  | dic kvs => obtain ⟨ks, q, rr⟩ := r; exact ⟨ks, q, rr.mono p .refl⟩
  | ins c fs => obtain ⟨C, dx, vs, q1, q, rr⟩ := r; exact ⟨C, dx, vs, q1, q, rr.mono p .refl⟩
  | lam j => exact r
/-- a place of what is not changed -/
theorem RS.add (rs : RS g μ S H) {f : Addr} {so : SO} (m : so.mut = false) (r : Ro g (μ ++ [f]) H f so) : RS g (μ ++ [f]) (S ++ [so]) H := by
  have at1 : ∀ {l : Nat} {a : Addr}, (μ ++ [f])[l]? = some a → l < μ.length ∧ μ[l]? = some a ∨ l = μ.length ∧ a = f := fun {l a} e => by
    by_cases hl : l < μ.length
    · rw [List.getElem?_append_left hl] at e; exact .inl ⟨hl, e⟩
    · have h2 : l < (μ ++ [f]).length := (List.getElem?_eq_some_iff.mp e).1
      rw [List.length_append, List.length_singleton] at h2
      have h3 : l = μ.length := by omega
      subst h3
      rw [List.getElem?_append_right (Nat.le_refl _), Nat.sub_self] at e
      exact .inr ⟨rfl, (Option.some.inj e).symm⟩
  have at2 : ∀ {l : Nat} {o : SO}, l < μ.length → (S ++ [so])[l]? = some o → S[l]? = some o := fun {l o} hl e => by
    rw [List.getElem?_append_left (by rw [← rs.len]; exact hl)] at e; exact e
  have at3 : ∀ {o : SO}, (S ++ [so])[μ.length]? = some o → o = so := fun {o} e => by
    rw [List.getElem?_append_right (by rw [rs.len]; exact Nat.le_refl _), rs.len, Nat.sub_self] at e
    exact (Option.some.inj e).symm
  refine ⟨by rw [List.length_append, List.length_append, rs.len]; rfl, fun l l' a o o' e1 e2 e3 e4 m1 m2 => ?_, fun l a so' e1 e2 => ?_, rs.tabs⟩
  · rcases at1 e1 with ⟨h1, f1⟩ | ⟨h1, f1⟩ <;> rcases at1 e2 with ⟨h2, f2⟩ | ⟨h2, f2⟩
    · exact rs.nd l l' a o o' f1 f2 (at2 h1 e3) (at2 h2 e4) m1 m2
    · subst h2; rw [at3 e4, m] at m2; cases m2
    · subst h1; rw [at3 e3, m] at m1; cases m1
    · exact h1.trans h2.symm
  · rcases at1 e1 with ⟨h1, f1⟩ | ⟨rfl, rfl⟩
    · exact (rs.obj l a so' f1 (at2 h1 e2)).pre ⟨[f], rfl⟩
    · rw [at3 e2]; exact r
end
def eLam (j : Nat) : EF := fun _ S => .ok (.loc S.length) (S ++ [.lam j])
section
variable {X : Cx} {g : G} {W : WX} {pos : Pos} {c P : Addr}
theorem se_lam {params : Arguments} {body : Expr} {scope : Scope} {q : Str} (j : Nat) (hj : g.lt j = ⟨q, params, body, scope⟩) (TB : LamX.TabB X.base X.mg c P) (hcode : X.env.code = .ref c) (hq : q = X.env.qual ++ "<lambda>")
    (hT : (P, some q) ∈ g.T) (hu : ∀ p ∈ g.T, p.1 = P → p.2 = some q) (hdef : defaultsOf params X.env = ([], []) := by rfl) (hnf : ∀ y ∈ scope.names, y.2 ≠ .free := by decide) (hcl : cloFrom X.env.cells scope.names [] = [] := by rfl) :
    SE X g W (.Lambda params body scope pos) (eLam j) := by
  constructor
  intro pins s σ H Q I ⟨μ, ρ, S, re, rs, p⟩
  have tS : LamX.TabS H P q := rs.tabs _ hT
  obtain ⟨ps, hP, _⟩ := id tS
  refine lam_made (t := ⟨q, params, body, scope⟩) I TB hcode hq tS hdef hnf hcl fun f c' H1 s' I1 old t1 hf hc nF => ?_
  have rs1 : RS g μ S H1 := rs.but hP hu old t1
  have rs2 : RS g (μ ++ [f]) (S ++ [.lam j]) H1 := rs1.add rfl ⟨c', by rw [hj]; exact hf, by rw [hj]; exact hc⟩
  exact ⟨.ref f, H1, I1, rfl, p _ _ H1 ⟨[f], rfl⟩ (.but hP old) rs2 (.loc (by rw [← rs.len, List.getElem?_append_right (Nat.le_refl _), Nat.sub_self]; rfl))⟩
end
end Ev


/-! Ev: a local that holds a lambda, called; try. -/
namespace Ev
open PySem PySem.Spec PyProof.Rows L2
/-- the context of a lambda's body (no captured names), entered at s from the frames outer -/
def lamX (P : Program) (w : World) (K : PySem.W.Frag) (mg : Str → Option Value) (base : Heap) (t : LamT) (f c' : Addr) (A : Around) (outer : List Env) (s : Shared) (H : Hp) (E : XK) : Cx where
  prog := P
  w := w
  K := K
  mg := mg
  base := base
  A := A.deeper (PySem.W.envX t.q t.scope s.heap.objs.size f (.ref c') [])
  N := []
  s_0 := s
  H_0 := H
  env := PySem.W.envX t.q t.scope s.heap.objs.size f (.ref c') []
  outer := outer
  stack := PySem.W.envX t.q t.scope s.heap.objs.size f (.ref c') [] :: outer
  ex := []
  fn := fun _ => false
  calm := true
  pn := []
  xe := fun e s' => wpAny (model P w) (A.deeper (PySem.W.envX t.q t.scope s.heap.objs.size f (.ref c') [])) (leaving (PySem.W.envX t.q t.scope s.heap.objs.size f (.ref c') []) e) (fun _ s'' => L2.CX P w outer H s E e s'') (fun e' s'' => L2.CX P w outer H s E e' s'') s'
/-- only names of the module -/
structure LamG (scope : Scope) : Prop where
  kind : scope.kind = .function
  co : scope.isCoroutine = false
  gen : scope.isGenerator = false
  glob : ∀ y ∈ scope.names, y.2 ≠ .local ∧ y.2 ≠ .cell ∧ y.2 ≠ .free
section
variable {P : Program} {w : World} {K : PySem.W.Frag} {mg : Str → Option Value} {base : Heap} {A : Around} {outer : List Env} {s1 : Shared} {HZ : Hp} {E : XK}
theorem lam_start0 {t : LamT} {f c' : Addr} {h₁ : Heap} {tk : Nat} (L : LamG t.scope) (e0 : Env0 P w K mg base A outer s1 HZ) (hd : A.handled = none)
    (hns : h₁.Ns s1.heap.objs.size fun y => ([] : List (Str × Value)).reverse.lookup y) (kp : ∀ b o, s1.heap.get? b = some o → h₁.get? b = some o) :
    Inv (lamX P w K mg base t f c' A outer s1 HZ E) [] [] HZ { s1 with heap := h₁, toks := tk } := by
  have noA : ∀ b : Addr, b ∉ (lamX P w K mg base t f c' A outer s1 HZ E).ex := fun b z => absurd (show b ∈ ([] : List Addr) from z) (by simp)
  have nc : ∀ {y : Str} {c : Addr}, (lamX P w K mg base t f c' A outer s1 HZ E).env.cells.lookup y = some c → False := fun {y c} e => by
    have e : ([] : List (Str × Addr)).lookup y = some c := e
    cases e
  refine ⟨⟨e0.mod, L.kind, rfl, rfl, Nat.le_refl _, fun y z c e1 e2 => (nc e1).elim, fun y hy => ?_, fun y c z _ => ?_, fun _ => hd, Around.frames_deeper e0.frames, .inr ⟨rfl, rfl⟩, fun b z => absurd z (noA b), e0.bs, e0.bsz, fun b _ _ => noA b,
      fun b z => absurd z (noA b), e0.funs, e0.frf⟩,
    rfl, e0.bare, Un.kept kp, ⟨_, hns, fun i y v e1 e2 e3 => ?_⟩, fun y c e => (nc e).elim, e0.hok.fresh (Nat.le_refl _), fun y c e => (nc e).elim, fun q hq => absurd (show q ∈ ([] : List (Addr × Obj)) ++ [] from hq) (by simp), e0.hok.kept kp, rfl⟩
  · have hy : t.scope.names.lookup y = some .cell ∨ t.scope.names.lookup y = some .free := hy
    rcases hy with hy | hy
    · exact absurd rfl (L.glob _ (PySem.mem_of_lookup hy)).2.1
    · exact absurd rfl (L.glob _ (PySem.mem_of_lookup hy)).2.2
  · have z : false = true := z
    cases z
  · have e1 : ([] : List Str)[i]? = some y := e1
    simp at e1
end
/-- the j-th lambda's promise -/
def LamOk (P : Program) (w : World) (K : PySem.W.Frag) (mg : Str → Option Value) (base : Heap) (g : G) (k j : Nat) (fn : Store → R PV) : Prop :=
  LamG (g.lt j).scope ∧ (∀ (pm cv ctv : Value), bindArgs (PySem.W.kla_fn "<lambda>" (g.lt j).q (g.lt j).params (g.lt j).body (g.lt j).scope [] pm cv ctv) ⟨[], []⟩ = pure []) ∧
  ∀ (A : Around) (outer : List Env) (s : Shared) (H : Hp) (E : XK) (f c' : Addr), Room k (A.deeper (PySem.W.envX (g.lt j).q (g.lt j).scope s.heap.objs.size f (.ref c') [])) →
    Takes (lamX P w K mg base (g.lt j) f c' A outer s H E) (fun cls d _ H => E cls d H) →
    SE (lamX P w K mg base (g.lt j) f c' A outer s H E) g (fun cls d _ H => E cls d H) (g.lt j).body (fun _ S => fn S)
theorem lam_takes {P : Program} {w : World} {K : PySem.W.Frag} {mg : Str → Option Value} {base : Heap} {t : LamT} {A : Around} {outer : List Env} {s : Shared} {H : Hp} {E : XK} {f c' : Addr} : Takes (lamX P w K mg base t f c' A outer s H E) (fun cls d _ H => E cls d H) :=
  takes_of (X := lamX P w K mg base t f c' A outer s H E) rfl rfl rfl rfl
/-- x() for a local x that holds one of the lambdas lo .. -/
def eCallV (lam : Nat → Option (Store → R PV)) (i : Nat) : EF := fun ρ S => match ρ[i]? with
  | some (some (.loc l)) => match S[l]? with
    | some (.lam j) => match lam j with
      | some fn => fn S
      | none => .bad
    | _ => .bad
  | _ => .bad
section
variable {X : Cx} {g : G} {W : WX} {p1 p2 : Pos}
theorem se_callV {lam : Nat → Option (Store → R PV)} {k i : Nat} {x : Str} (hN : X.N[i]? = some x) (hv : Vis X.env.scope x) (hr' : Room k X.A) (tk : Takes X W)
    (hlam : ∀ j fn, lam j = some fn → ∃ k', k' + 1 = k ∧ LamOk X.prog X.w X.K X.mg X.base g k' j fn) (hd : (x == ("__debug__" : Str)) = false := by decide) (hcd : (x == ("__classdict__" : Str)) = false := by decide) :
    SE X g W (.Call (.Name x p1) [] [] p2) (eCallV lam i) := by
  refine ⟨fun pins s σ H Q I ⟨μ, ρ, S, re, rs, p⟩ => ?_⟩
  unfold eCallV at p
  split at p
  · rename_i l hl
    split at p
    · rename_i j hj
      split at p
      · rename_i fn hfn
        obtain ⟨xv, hσ, rx⟩ := re.at_ i _ hl
        cases rx with
        | loc hμ =>
          rename_i f
          obtain ⟨c', of0, oc0⟩ := rs.obj _ _ _ hμ hj
          obtain ⟨k', hk', L, hbind, hbody⟩ := hlam j fn hfn
          have hr : Room (k' + 1) X.A := hk' ▸ hr'
          refine wpAny_Call_Name_kw (thn ((pe_var (pos := p1) (i := i) hN hv hd hcd).run pins s σ H (fun v H1 => v = .ref f ∧ H1 = H) I ⟨.ref f, hσ, rfl, rfl⟩) fun u s1 ⟨v, H1, I1, r1, q1⟩ => ?_)
          obtain ⟨ev, eH⟩ := q1
          subst ev
          rw [eH] at I1
          obtain rfl : u = Value.ref f := r1
          obtain ⟨⟨pm, ctv, of1⟩, _, _⟩ := I1.hok f _ of0
          refine PySem.W.callWith_F0 ⟨_, _, _, _, of1⟩ ?_
          obtain ⟨⟨oc, vs, tt, hoc, hdc, hvc⟩, _, _⟩ := I1.hok c' _ oc0
          have rc : codeAny (model X.prog X.w) X.A (.call (.ref f) ⟨[], []⟩) (CR (L2.CX X.prog X.w) X.stack X.prog X.w H s1 Q (WE W σ)) s1 := by
            refine PySem.W.kla_callFunE hr.depth of1 rfl L.co L.gen rfl ⟨c', oc, vs, tt, rfl, hoc, hdc, hvc⟩ ?_
            rw [hbind]
            refine wpAny_pure (wpAny_newFunctionEnv (fun y hy => (L.glob y hy).2.1) (fun y hy => absurd hy (by simp)) (fun h₁ hns hsb => ⟨I1.nolimit.fresh _ hsb, ?_⟩) L.kind)
            show codeAny _ _ (.expr (g.lt j).body (PySem.W.envX (g.lt j).q (g.lt j).scope s1.heap.objs.size f (.ref c') [])) _ _
            have kp : ∀ b o, s1.heap.get? b = some o → h₁.get? b = some o := fun b o e => hsb.extBut b o (Nat.ne_of_lt (Heap.lt_size e)) (Heap.get?_push_of_some _ e)
            have J : Inv (lamX X.prog X.w X.K X.mg X.base (g.lt j) f c' X.A X.stack s1 H (WE W σ)) [] [] H { s1 with heap := h₁, toks := s1.toks + ([] : List (Str × Value)).length } :=
              lam_start0 L I1.env0 hr.hd hns kp
            have tk2 := lam_takes (P := X.prog) (w := X.w) (K := X.K) (mg := X.mg) (base := X.base) (t := g.lt j) (A := X.A) (outer := X.stack) (s := s1) (H := H) (E := WE W σ) (f := f) (c' := c')
            have hq := (hbody X.A X.stack s1 H (WE W σ) f c' (hr.deeper _) tk2).run [] _ _ H Q J ⟨μ, [], S, ⟨rfl, fun i v e => by simp at e⟩, rs, p⟩
            refine PySem.W.kla_codeExpr (wpAny_mono hq (fun v s' hq => ?_) fun e s' hq => hq)
            obtain ⟨w', H', J', rv, q⟩ := hq
            exact ⟨w', H', J'.os, J'.bare, J'.base, J'.hok, rv, q⟩
          refine wpAny_call (codeAny_mono rc fun r s' hq => ?_)
          cases r with
          | error e => exact passAt tk σ pins H s1 e s' I1 hq
          | ok fl =>
            cases fl with
            | ret u => exact I1.after hq
            | next => exact False.elim hq
            | brk => exact False.elim hq
            | cont => exact False.elim hq
      · exact p.elim
    · exact p.elim
  · exact p.elim
/-! ### try .. except x: -/
def sTry (f : SF) (cs : Nat → Option Bool) (h : SF) : SF := fun ρ S => match f ρ S with
  | .exc c ρ' S' => match cs c with
    | some true => h ρ' S'
    | some false => .exc c ρ' S'
    | none => .bad
  | r => r
/-- is the class number c caught by a clause for the class cv? -/
def Cat (g : G) (K : PySem.W.Frag) (cv : Value) (cs : Nat → Option Bool) : Prop := ∀ c b, cs c = some b → PySem.W.exmOne K (g.cv c) cv = some b
theorem ss_try {x : Str} {c : Value} {body suite : List Stmt} {b₀ : Stmt} {np pos pos' : Pos} {f fh : SF} {cs : Nat → Option Bool} (hs : X.stack = X.env :: X.outer) (hf : X.env.frame = some X.env.locals) (hc : Names X x c) (tk : Takes X W) (hcat : Cat g X.K c cs)
    (hb : ∀ (W' : WX) (pn : List (Addr × Obj)) (xe : Value → Shared → Prop), Takes (X.tr pn xe) W' → PassesOwn (model X.prog X.w) X.A X.env xe → SSs (X.tr pn xe) g W' body f)
    (hsu : ∀ (a : Addr) (oe : Obj) (cls : Value) (d : Option Addr) (pn : List (Addr × Obj)), Zc cls d oe → (∃ vs, oe.data = .fields vs) → SSs (X.suite a ((a, oe) :: pn)) g W (b₀ :: suite) fh) :
    SS X g W (.Try body [.ExceptHandler (some (.Name x np)) none (b₀ :: suite) pos'] [] [] pos) (sTry f cs fh) := by
  refine PSimp (ps_try_only (tb := fun W' => tSv g W' f) (ts := fun _ _ _ => tSv g W fh) (Wout := W) hs hf hc tk hb hsu) fun D σ H ⟨μ, ρ, S, re, rs, p⟩ => ⟨μ, ρ, S, re, rs, ?_⟩
  unfold sTry at p
  cases e : f ρ S with
  | ok fl S' =>
    rw [e] at p
    cases fl <;> exact p
  | bad => rw [e] at p; exact p.elim
  | exc n ρ' S' =>
    rw [e] at p
    simp only at p
    intro μ' σ' H' hp hl rs' re'
    cases hcs : cs n with
    | none => rw [hcs] at p; exact p.elim
    | some b =>
      rw [hcs] at p
      refine ⟨b, hcat n b hcs, fun hb' a ha => ?_, fun hb' => ?_⟩
      · subst hb'
        exact ⟨μ', ρ', S', re', rs', PostS.later (r := fh ρ' S') p hp hl⟩
      · subst hb'
        exact p μ' σ' H' hp hl rs' re'
end
end Ev


/-! Ev: defs. -/
namespace Ev
open PySem PySem.Spec PyProof.Rows L2
/-- a def's body (n slots) at its arguments -/
def runB (n : Nat) (f : SF) : List PV → Store → R PV := fun vs S => match f (vs.map some ++ List.replicate (n - vs.length) none) S with
  | .ok (.rt v) S' => .ok v S'
  | .ok (.nx _) S' => .ok .non S'
  | .ok _ _ => .bad
  | .exc c _ S' => .exc c S'
  | .bad => .bad
/-- a def of the text behind the top, its code object known -/
structure FunE (K : PySem.W.Frag) (x : Str) (st : Stmt) (f : Addr) (fd : FuncData) (cd : Value) : Prop where
  ex : ∃ (oc : Value) (od : Option Addr) (dV kV doc pm : Value) (an : Option Addr) (ct : Value) (osl : Array (Option Value)),
    fd = PySem.W.fnOf x x (defArgs st) (defBody st) (defScope st) dV kV doc pm an cd ct ∧ K.lookup f = some ⟨oc, od, .func fd, osl⟩ ∧ PySem.W.codeIn K cd x = true
section
variable {P : Program} {w : World} {K : PySem.W.Frag} {mg : Str → Option Value} {base : Heap} {g : G}
theorem re_start {μ : List Addr} {H : Hp} {xs : List PV} {vs : List V} (r : Rps K μ H xs vs) (N : List Str) : RE K μ H (xs.map some ++ List.replicate (N.length - xs.length) none) (L2.start N vs) := by
  unfold L2.start
  rw [r.length]
  refine ⟨by simp [r.length], fun i v e => ?_⟩
  by_cases hi : i < xs.length
  · rw [List.getElem?_append_left (by simpa using hi), List.getElem?_map] at e
    cases e1 : xs[i]? with
    | none => rw [e1] at e; cases e
    | some y =>
      rw [e1] at e
      cases e
      obtain ⟨x, hx, rx⟩ := r.get e1
      refine ⟨x, ?_, rx⟩
      rw [List.getElem?_append_left (by rw [List.length_map, ← r.length]; exact hi), List.getElem?_map, hx]
      rfl
  · rw [List.getElem?_append_right (by simpa using hi)] at e
    have := List.mem_of_getElem? e
    rw [List.mem_replicate] at this
    cases this.2
theorem okE {x : Str} {st : Stmt} {f : Addr} {fd : FuncData} {cd : Value} {N ps : List Str} {k i : Nat} {b : SF} {c : Oracle} (F : FunE K x st f fd cd) (gK : K = g.K) (S : FnScope N ps (defScope st)) (hci : ∀ vs S, c i vs S = runB N.length b vs S)
    (hbody : ∀ (A : Around) (outer : List Env) (s : Shared) (H : Hp) (E : XK), Room k (A.deeper (envOfC x (defScope st) s.heap.objs.size f cd)) →
      SSs (cxOf (L2.CX P w) P w K mg base N x (defScope st) f cd A outer s H E) g (fun cls d _ H => E cls d H) (defBody st) b) : FnOk P w K mg base (L2.CX P w) (k + 1) f fd ps (spO g c i ps.length) := by
  obtain ⟨oc, od, dV, kV, doc, pm, an, ct, osl, rfl, lk, hcd⟩ := F.ex
  refine fn_of lk hcd S (fun vs H Q E h => h.1) fun A outer s H vs Q E hr hsp => ?_
  refine ⟨_, hbody A outer s H E hr, ?_⟩
  obtain ⟨hl, μ, S0, xs, rs, rv, p⟩ := hsp
  subst gK
  refine ⟨μ, _, S0, re_start rv N, rs, ?_⟩
  rw [hci] at p
  unfold runB at p
  cases e : b (xs.map some ++ List.replicate (N.length - xs.length) none) S0 with
  | ok fl S' =>
    rw [e] at p
    cases fl with
    | nx ρ => exact fun μ' σ' H' hp hl rs' re' => p μ' V.non H' hp hl rs' .non
    | rt v => exact fun μ' x H' hp hl rs' r => p μ' x H' hp hl rs' r
    | bk ρ => exact p.elim
    | ct ρ => exact p.elim
  | exc n ρ S' =>
    rw [e] at p
    exact fun μ' σ' H' hp hl rs' re' => p μ' H' hp hl rs'
  | bad => rw [e] at p; exact p.elim
theorem FunE.of {x : Str} {st : Stmt} {fd : FuncData} {dvs : List V} {kws : List (Str × V)} (F : FunD K x x (defArgs st) (defBody st) (defScope st) dvs kws (He.fAd K (x, none)) fd) : FunE K x st (He.fAd K (x, none)) fd (.ref (He.codeOf K (x, none))) := by
  obtain ⟨oc, od, dV, kV, doc, pm, an, cdv, ct, osl, rfl, lk, hcd, _, _⟩ := F.ex
  obtain ⟨c, rfl⟩ := He.codeIn_ref hcd
  rw [He.codeOf_eq lk rfl]
  exact ⟨oc, od, dV, kV, doc, pm, an, ct, osl, rfl, lk, hcd⟩
/-- an error's class of the text, over ValueError -/
structure ExcT (K : PySem.W.Frag) (mg : Str → Option Value) (g : G) (x : Str) (k : Nat) (C : Addr) : Prop where
  cv : g.cv k = .ref C
  q : PySem.W.excIn K C [.type "ValueError", .type "Exception", .type "BaseException", .type "object"] "ValueError.__new__" = true
  gC : mg x = some (.ref C)
  kC : PySem.W.keepIn K (.ref C) = true
  eC : PySem.W.subIn K (.ref C) (.type "BaseException") = some true
  tC : PySem.W.typeIn K (.ref C) = some (.type "type")
/-- what is bad is promised -/
theorem ok_bad {f : Addr} {fd : FuncData} {ps : List Str} {k i : Nat} {c : Oracle} (h : ∀ vs S, c i vs S = .bad) : FnOk P w K mg base (L2.CX P w) k f fd ps (spO g c i ps.length) :=
  ⟨fun vs H Q E h => h.1, fun A outer s H args us vs Q E hr e0 hb r ⟨_, μ, S, xs, _, _, p⟩ => by
    rw [h] at p
    exact p.elim⟩
/-! ### the law: what stands ahead of the last return, and its answer, at the empty store -/
section
variable {X : Cx} {W : WX} {pos : Pos} {a : Expr} {fa : EF} {st : Stmt} {sts : List Stmt} {f f2 : SF}
def tFin (g : G) (W : WX) (f : SF) (fa : EF) : TS := fun D σ H => tSv g W f { D with nx := fun σ' H' => tEv g W fa σ' H' D.rt } σ H
theorem ss_fin (ha : SE X g W a fa) : PSs X [.Return (some a) pos] (tFin g W sNil fa) :=
  PSsimp (pss_one (ps_ret ha)) fun D σ H ⟨μ, ρ, S, re, rs, p⟩ => PostS.nx p rs re
theorem ss_finC (h1 : SS X g W st f) (h2 : PSs X sts (tFin g W f2 fa)) : PSs X (st :: sts) (tFin g W (sSeq f f2) fa) :=
  PSsimp (pss_cons h1 h2) fun D σ H ⟨μ, ρ, S, re, rs, p⟩ => by
    refine ⟨μ, ρ, S, re, rs, ?_⟩
    unfold sSeq at p
    cases e : f ρ S with
    | ok fl S' =>
      rw [e] at p
      cases fl with
      | nx ρ' => exact fun μ' σ' H' hp hl rs' re' => ⟨μ', ρ', S', re', rs', PostS.later (r := f2 ρ' S') p hp hl⟩
      | rt v => exact p
      | bk ρ => exact p
      | ct ρ => exact p
    | exc c ρ' S' => rw [e] at p; exact p
    | bad => rw [e] at p; exact p
end
def spLaw (g : G) (n : Nat) (b : SF) : Sp := fun vs H Q _ => vs.length = 1 ∧ (∃ μ S xs, RS g μ S H ∧ Rps g.K μ H xs vs ∧ ∃ ρ' S', b (xs.map some ++ List.replicate (n - xs.length) none) S = .ok (.nx ρ') S') ∧ ∀ H', Q (.bl true) H'
theorem okLaw {x p : Str} {st : Stmt} {f : Addr} {fd : FuncData} {cd : Value} {N : List Str} {k : Nat} {b : SF} {fa : EF} (F : FunE K x st f fd cd) (gK : K = g.K) (S : FnScope N [p] (defScope st)) (hfa : ∀ ρ, ∃ S', fa ρ [] = .ok (.bl true) S')
    (hbody : ∀ (A : Around) (outer : List Env) (s : Shared) (H : Hp) (E : XK), Room k (A.deeper (envOfC x (defScope st) s.heap.objs.size f cd)) →
      PSs (cxOf (L2.CX P w) P w K mg base N x (defScope st) f cd A outer s H E) (defBody st) (tFin g (fun cls d _ H => E cls d H) b fa)) : FnOk P w K mg base (L2.CX P w) (k + 1) f fd [p] (spLaw g N.length b) := by
  obtain ⟨oc, od, dV, kV, doc, pm, an, ct, osl, rfl, lk, hcd⟩ := F.ex
  refine fn_of lk hcd S (fun vs H Q E h => h.1) fun A outer s H vs Q E hr hsp => ?_
  refine ⟨_, hbody A outer s H E hr, ?_⟩
  obtain ⟨hl, ⟨μ, S0, xs, rs, rv, ρ', S', eb⟩, hQ⟩ := hsp
  subst gK
  refine ⟨μ, _, S0, re_start rv N, rs, ?_⟩
  rw [eb]
  intro μ' σ' H' hp hle rs' re'
  obtain ⟨S2, e2⟩ := hfa (List.replicate σ'.length none)
  refine ⟨[], List.replicate σ'.length none, [], ⟨by simp, fun i v e => ?_⟩, ⟨rfl, fun l l' a o o' e1 => by simp at e1, fun l a o e1 => by simp at e1, rs'.tabs⟩, ?_⟩
  · have := List.mem_of_getElem? e
    rw [List.mem_replicate] at this
    cases this.2
  · rw [e2]
    intro μ2 x2 H2 _ _ _ r2
    cases r2
    exact hQ H2
end
end Ev


/-! Ev: the evaluators reckoned with: what is wished behind them. -/
namespace Ev
open PySem PySem.Spec PyProof.Rows L2
def WE {α : Type} (r : R α) (Q : α → Store → Prop) : Prop := ∃ a S', r = .ok a S' ∧ Q a S'
def WS (r : RO) (Q : Fl → Store → Prop) : Prop := ∃ f S', r = .ok f S' ∧ Q f S'
def WO (o : Option (PV × Store)) (Q : PV → Store → Prop) : Prop := ∃ z S', o = some (z, S') ∧ Q z S'
section
variable {α β : Type} {Q : PV → Store → Prop} {QL : List PV → Store → Prop} {QB : Bool → Store → Prop} {QI : Option Int → Store → Prop} {QS : Fl → Store → Prop} {ρ ρ' : Env'} {S S' : Store} {a b fo fe : EF} {as r : AF} {t ta tb : BF} {op o1 o2 : BOp} {v w : PV} {i n : Nat}
theorem WE.imp {r : R α} {Q Q' : α → Store → Prop} (h : WE r Q) (k : ∀ a S, Q a S → Q' a S) : WE r Q' := let ⟨a, S', e, q⟩ := h; ⟨a, S', e, k _ _ q⟩
theorem WS.imp {r : RO} {Q Q' : Fl → Store → Prop} (h : WS r Q) (k : ∀ a S, Q a S → Q' a S) : WS r Q' := let ⟨a, S', e, q⟩ := h; ⟨a, S', e, k _ _ q⟩
theorem WE.mk {r : R α} {Q : α → Store → Prop} {a : α} {S' : Store} (e : r = .ok a S') (q : Q a S') : WE r Q := ⟨a, S', e, q⟩
theorem WO.mk {o : Option (PV × Store)} {z : PV} (e : o = some (z, S')) (q : Q z S') : WO o Q := ⟨z, S', e, q⟩
theorem wBind {x : R α} {k : α → Store → R β} {Q : β → Store → Prop} (h : WE x fun v S1 => WE (k v S1) Q) : WE (x.bind k) Q := by
  obtain ⟨v, S1, e, q⟩ := h
  rw [e]; exact q
theorem wOfO {o : Option (PV × Store)} (h : WO o Q) : WE (R.ofO o) Q := by
  obtain ⟨v, S1, e, q⟩ := h
  rw [e]; exact ⟨v, S1, rfl, q⟩
theorem wVar (h : ρ[i]? = some (some v)) (q : Q v S) : WE (eVar i ρ S) Q := by
  unfold eVar; rw [h]; exact ⟨v, S, rfl, q⟩
theorem wC (q : Q v S) : WE (eC v ρ S) Q := ⟨v, S, rfl, q⟩
theorem wBin (h : WE (a ρ S) fun v S1 => WE (b ρ S1) fun w S2 => WO (op v w S2) Q) : WE (eBin op a b ρ S) Q := wBind (h.imp fun v S1 h => wBind (h.imp fun w S2 h => wOfO h))
theorem wUn {f : PV → Store → Option (PV × Store)} (h : WE (a ρ S) fun v S1 => WO (f v S1) Q) : WE (eUn f a ρ S) Q := wBind (h.imp fun v S1 h => wOfO h)
theorem wNil (q : QL [] S) : WE (eNil ρ S) QL := ⟨[], S, rfl, q⟩
theorem wCons (h : WE (a ρ S) fun v S1 => WE (r ρ S1) fun vs S2 => QL (v :: vs) S2) : WE (eCons a r ρ S) QL := wBind (h.imp fun v S1 h => wBind (h.imp fun vs S2 h => ⟨_, _, rfl, h⟩))
theorem wTup (h : WE (as ρ S) fun vs S1 => vs.length ≤ LINE ∧ Q (.tup vs) S1) : WE (eTup as ρ S) Q := wBind (h.imp fun v S1 h => by rw [if_pos h.1]; exact ⟨_, _, rfl, h.2⟩)
theorem wLst (h : WE (as ρ S) fun vs S1 => vs.length ≤ LINE ∧ Q (.loc S1.length) (S1 ++ [.lst vs])) : WE (eLst as ρ S) Q := wBind (h.imp fun v S1 h => by rw [if_pos h.1]; exact ⟨_, _, rfl, h.2⟩)
theorem wCl {f : AOp} (h : WE (as ρ S) fun vs S1 => WO (f vs S1) Q) : WE (eCl f as ρ S) Q := wBind (h.imp fun v S1 h => wOfO h)
theorem wIf (h : WE (t ρ S) fun c S1 => if c = true then WE (a ρ S1) Q else WE (b ρ S1) Q) : WE (eIf t a b ρ S) Q := wBind (h.imp fun c S1 h => by
  cases c with
  | true => exact h
  | false => exact h)
theorem wIs {cs : List String} {t : String} (h : WE (a ρ S) fun v S1 => ∃ t, tyP S1 v = some t ∧ Q (.bl (isB t cs)) S1) : WE (eIs cs a ρ S) Q := wBind (h.imp fun v S1 ⟨t, e, q⟩ => by rw [e]; exact ⟨_, _, rfl, q⟩)
theorem wCall {c : Oracle} {dv : List PV} (h : WE (as ρ S) fun vs S1 => vs.length + dv.length = n ∧ WE (c i (vs ++ dv) S1) Q) : WE (eCall c i n dv as ρ S) Q := wBind (h.imp fun v S1 h => by rw [if_pos h.1]; exact h.2)
theorem wDn (q : Q (.loc S.length) (S ++ [.dic []])) : WE (eDn ρ S) Q := ⟨_, _, rfl, q⟩
theorem wNot (h : WE (a ρ S) fun v S1 => ∃ c, truP v S1 = some c ∧ Q (.bl (!c)) S1) : WE (eNot a ρ S) Q := wBind (h.imp fun v S1 ⟨c, e, q⟩ => by rw [e]; exact ⟨_, _, rfl, q⟩)
theorem wAppd (h : WE (fo ρ S) fun v S1 => tyP S1 v = some "list" ∧ WE (as ρ S1) fun ws S2 => ∃ l w xs, v = .loc l ∧ ws = [w] ∧ S2[l]? = some (.lst xs) ∧ xs.length < LINE ∧ Q .non (S2.set l (.lst (xs ++ [w])))) : WE (eAppd fo as ρ S) Q :=
  wBind (h.imp fun v S1 ⟨e, h⟩ => by
    rw [e]
    exact wBind (h.imp fun ws S2 ⟨l, w, xs, e1, e2, e3, e4, q⟩ => by
      subst e1 e2
      simp only [e3, if_pos e4]
      exact ⟨_, _, rfl, q⟩))
theorem wM1 {f : BOp} (h : WE (fo ρ S) fun v S1 => ∃ s, v = .str s ∧ WE (fe ρ S1) fun w S2 => WO (f v w S2) Q) : WE (eM1 f fo fe ρ S) Q := wBind (h.imp fun v S1 ⟨s, e, h⟩ => by
  subst e
  exact wBind (h.imp fun w S2 h => wOfO h))
theorem oNo_ (q : QI none S) : WE (oNo ρ S) QI := ⟨_, _, rfl, q⟩
theorem oSo_ (h : WE (a ρ S) fun v S1 => ∃ i, v = .int i ∧ QI (some i) S1) : WE (oSo a ρ S) QI := wBind (h.imp fun v S1 ⟨i, e, q⟩ => by subst e; exact ⟨_, _, rfl, q⟩)
theorem wSl {lo hi : EO} (h : WE (a ρ S) fun v S1 => WE (lo ρ S1) fun l S2 => WE (hi ρ S2) fun h S3 => WO (slP v l h S3) Q) : WE (eSl a lo hi ρ S) Q := wBind (h.imp fun v S1 h => wBind (h.imp fun l S2 h => wBind (h.imp fun k S3 h => wOfO h)))
/-! tests -/
theorem wbCmp (h : WE (a ρ S) fun v S1 => WE (b ρ S1) fun w S2 => ∃ c S3, op v w S2 = some (.bl c, S3) ∧ QB c S3) : WE (bCmp op a b ρ S) QB := wBind (h.imp fun v S1 h => wBind (h.imp fun w S2 ⟨c, S3, e, q⟩ => by rw [e]; exact ⟨_, _, rfl, q⟩))
theorem wbTru (h : WE (a ρ S) fun v S1 => ∃ c, truP v S1 = some c ∧ QB c S1) : WE (bTru a ρ S) QB := wBind (h.imp fun v S1 ⟨c, e, q⟩ => by rw [e]; exact ⟨_, _, rfl, q⟩)
theorem wbNot (h : WE (t ρ S) fun c S1 => QB (!c) S1) : WE (bNot t ρ S) QB := wBind (h.imp fun c S1 h => ⟨_, _, rfl, h⟩)
theorem wbAnd (h : WE (ta ρ S) fun c S1 => if c = true then WE (tb ρ S1) QB else QB false S1) : WE (bAnd ta tb ρ S) QB := wBind (h.imp fun c S1 h => by
  cases c with
  | true => exact h
  | false => exact ⟨_, _, rfl, h⟩)
theorem wbOr (h : WE (ta ρ S) fun c S1 => if c = true then QB true S1 else WE (tb ρ S1) QB) : WE (bOr ta tb ρ S) QB := wBind (h.imp fun c S1 h => by
  cases c with
  | true => exact ⟨_, _, rfl, h⟩
  | false => exact h)
theorem wB (h : WE (t ρ S) fun c S1 => Q (.bl c) S1) : WE (eB t ρ S) Q := wBind (h.imp fun c S1 h => ⟨_, _, rfl, h⟩)
/-! statements -/
theorem wbindE {x : R α} {k : α → Store → RO} (h : WE x fun v S1 => WS (k v S1) QS) : WS (bindE x ρ k) QS := by
  obtain ⟨v, S1, e, q⟩ := h
  rw [e]; exact q
theorem wsNil (q : QS (.nx ρ) S) : WS (sNil ρ S) QS := ⟨_, _, rfl, q⟩
def nxt (f : SF) (QS : Fl → Store → Prop) (fl : Fl) (S1 : Store) : Prop := match fl with
  | .nx ρ' => WS (f ρ' S1) QS
  | fl => QS fl S1
theorem wsSeq {f f2 : SF} (h : WS (f ρ S) (nxt f2 QS)) : WS (sSeq f f2 ρ S) QS := by
  obtain ⟨fl, S1, e, q⟩ := h
  unfold sSeq
  rw [e]
  cases fl with
  | nx ρ' => exact q
  | rt v => exact ⟨_, _, rfl, q⟩
  | bk ρ => exact ⟨_, _, rfl, q⟩
  | ct ρ => exact ⟨_, _, rfl, q⟩
theorem wsRet (h : WE (a ρ S) fun v S1 => QS (.rt v) S1) : WS (sRet a ρ S) QS := wbindE (h.imp fun v S1 h => ⟨_, _, rfl, h⟩)
theorem wsExpr (h : WE (a ρ S) fun v S1 => QS (.nx ρ) S1) : WS (sExpr a ρ S) QS := wbindE (h.imp fun v S1 h => ⟨_, _, rfl, h⟩)
theorem wsIf {f f2 : SF} (h : WE (t ρ S) fun c S1 => if c = true then WS (f ρ S1) QS else WS (f2 ρ S1) QS) : WS (sIf t f f2 ρ S) QS := wbindE (h.imp fun c S1 h => by
  cases c with
  | true => exact h
  | false => exact h)
theorem wsAsg {tg : Tg} (h : WE (a ρ S) fun v S1 => ∃ ρ' S2, tg v ρ S1 = some (ρ', S2) ∧ QS (.nx ρ') S2) : WS (sAsg a tg ρ S) QS := wbindE (h.imp fun v S1 ⟨ρ', S2, e, q⟩ => by rw [e]; exact ⟨_, _, rfl, q⟩)
theorem wsSet (h : WE (a ρ S) fun v S1 => QS (.nx (ρ.set i (some v))) S1) : WS (sAsg a (tgN i) ρ S) QS := wsAsg (h.imp fun v S1 q => ⟨_, _, rfl, q⟩)
theorem wsPar {j : Nat} (h : WE (as ρ S) fun vs S1 => ∃ v w, vs = [v, w] ∧ QS (.nx ((ρ.set i (some v)).set j (some w))) S1) : WS (sPar i j as ρ S) QS := wbindE (h.imp fun vs S1 ⟨v, w, e, q⟩ => by subst e; exact ⟨_, _, rfl, q⟩)
theorem wsAug (e : ρ[i]? = some (some v)) (h : WE (a ρ S) fun w S1 => WO (op v w S1) fun z S2 => QS (.nx (ρ.set i (some z))) S2) : WS (sAug i op a ρ S) QS := by
  unfold sAug
  rw [e]
  exact wbindE (h.imp fun w S1 ⟨z, S2, e, q⟩ => by rw [e]; exact ⟨_, _, rfl, q⟩)
/-! defs -/
def fin (Q : PV → Store → Prop) (fl : Fl) (S1 : Store) : Prop := match fl with
  | .rt v => Q v S1
  | .nx _ => Q .non S1
  | _ => False
theorem wRun {f : SF} {vs : List PV} (h : WS (f (vs.map some ++ List.replicate (n - vs.length) none) S) (fin Q)) : WE (runB n f vs S) Q := by
  obtain ⟨fl, S1, e, q⟩ := h
  unfold runB
  rw [e]
  cases fl with
  | nx ρ' => exact ⟨_, _, rfl, q⟩
  | rt v => exact ⟨_, _, rfl, q⟩
  | bk ρ => exact q.elim
  | ct ρ => exact q.elim
/-! loops -/
theorem wsFor {it : IF} {tg : Tg} {f : SF} (h : WE (it ρ S) fun src S1 => WS (forL src tg f (fuelOf src S1) 0 ρ S1) QS) : WS (sFor it tg f ρ S) QS := wbindE h
theorem wforEnd {src : Src} {tg : Tg} {f : SF} (e : nth src i S = some none) (q : QS (.nx ρ) S) : WS (forL src tg f (n + 1) i ρ S) QS := by
  unfold forL
  rw [e]
  exact ⟨_, _, rfl, q⟩
theorem wforGo {src : Src} {tg : Tg} {f : SF} {ρ1 : Env'} {S1 : Store} (e : nth src i S = some (some v)) (et : tg v ρ S = some (ρ1, S1))
    (h : WS (f ρ1 S1) fun fl S2 => match fl with
      | .nx ρ2 => WS (forL src tg f n (i + 1) ρ2 S2) QS
      | .ct ρ2 => WS (forL src tg f n (i + 1) ρ2 S2) QS
      | .bk ρ2 => QS (.nx ρ2) S2
      | .rt v => QS (.rt v) S2) : WS (forL src tg f (n + 1) i ρ S) QS := by
  obtain ⟨fl, S2, e2, q⟩ := h
  unfold forL
  simp only [e, et, e2]
  cases fl with
  | nx ρ2 => exact q
  | rt v => exact ⟨_, _, rfl, q⟩
  | bk ρ2 => exact ⟨_, _, rfl, q⟩
  | ct ρ2 => exact q
theorem wwhile {f : SF} (h : WE (t ρ S) fun c S1 => if c = true then WS (f ρ S1) fun fl S2 => (match fl with
      | .nx ρ2 => WS (whL t f n ρ2 S2) QS
      | .ct ρ2 => WS (whL t f n ρ2 S2) QS
      | .bk ρ2 => QS (.nx ρ2) S2
      | .rt v => QS (.rt v) S2) else QS (.nx ρ) S1) : WS (whL t f (n + 1) ρ S) QS := by
  unfold whL
  refine wbindE (h.imp fun c S1 h => ?_)
  cases c with
  | false => exact ⟨_, _, rfl, h⟩
  | true =>
    obtain ⟨fl, S2, e2, q⟩ := h
    simp only [if_true, e2]
    cases fl with
    | nx ρ2 => exact q
    | rt v => exact ⟨_, _, rfl, q⟩
    | bk ρ2 => exact ⟨_, _, rfl, q⟩
    | ct ρ2 => exact q
end
end Ev


/-! Ev: comprehensions, sources, and/or reckoned with. -/
namespace Ev
open PySem PySem.Spec PyProof.Rows L2
section
variable {α : Type} {Q : PV → Store → Prop} {QL : List PV → Store → Prop} {QB : Bool → Store → Prop} {QI : Src → Store → Prop} {QS : Fl → Store → Prop} {ρ ρ' ρ1 : Env'} {S S' S1 : Store} {a b fo fe te tk tv : EF} {as r : AF} {tt : BF} {v w : PV} {i n d : Nat} {src : Src} {t : Tg} {it : IF} {vs : List Nat}
theorem ifT {c : Bool} {A B : Prop} (h : c = true) (a : A) : if c = true then A else B := by rw [if_pos h]; exact a
theorem ifF {c : Bool} {A B : Prop} (h : c = false) (b : B) : if c = true then A else B := by rw [if_neg (by rw [h]; exact Bool.false_ne_true)]; exact b
theorem wChn {o1 o2 : BOp} {c : EF} (h : WE (a ρ S) fun v S1 => WE (b ρ S1) fun w S2 => ∃ k S3, o1 v w S2 = some (.bl k, S3) ∧ if k = true then WE (c ρ S3) (fun z S4 => ∃ k2 S5, o2 w z S4 = some (.bl k2, S5) ∧ QB k2 S5) else QB false S3) : WE (bChn o1 o2 a b c ρ S) QB := wBind (h.imp fun v S1 h => wBind (h.imp fun w S2 ⟨k, S3, e, q⟩ => by
  simp only [e]
  cases k with
  | false => exact ⟨_, _, rfl, q⟩
  | true =>
    refine wBind (WE.imp (show WE (c ρ S3) _ from q) fun z S4 ⟨k2, S5, e2, q2⟩ => ?_)
    simp only [e2]
    exact ⟨_, _, rfl, q2⟩))
theorem wOf (h : WE (a ρ S) fun v S1 => ∃ s, srcP v S1 = some s ∧ QI s S1) : WE (iOf a ρ S) QI := wBind (h.imp fun v S1 ⟨s, e, q⟩ => by rw [e]; exact ⟨_, _, rfl, q⟩)
theorem srcL {l : Nat} {xs : List PV} (h : S[l]? = some (.lst xs)) : srcP (.loc l) S = some (.ref l) := by
  unfold srcP listAt
  simp only [h]
theorem srcR {l : Nat} {xs : List PV} (h : S[l]? = some (.rol xs)) : srcP (.loc l) S = some (.ref l) := by
  unfold srcP listAt
  simp only [h]
theorem nthL {l : Nat} {xs : List PV} (h : S[l]? = some (.lst xs)) : nth (.ref l) i S = some xs[i]? := by
  unfold nth listAt
  simp only [h]
theorem nthR {l : Nat} {xs : List PV} (h : S[l]? = some (.rol xs)) : nth (.ref l) i S = some xs[i]? := by
  unfold nth listAt
  simp only [h]
theorem fuelL {l : Nat} {xs : List PV} (h : S[l]? = some (.lst xs)) : fuelOf (.ref l) S = xs.length + 65537 := by
  unfold fuelOf listAt
  simp only [h]
  rfl
theorem fuelR {l : Nat} {xs : List PV} (h : S[l]? = some (.rol xs)) : fuelOf (.ref l) S = xs.length + 65537 := by
  unfold fuelOf listAt
  simp only [h]
  rfl
/-! list comprehensions -/
theorem wLc (h : WE (it ρ S) fun src S1 => WE (lcL src t tt te S1.length (wipeP ρ vs) (fuelOf src S1) 0 (S1 ++ [.lst []])) Q) : WE (eLc it t tt te vs ρ S) Q := wBind h
theorem wlcEnd (e : nth src i S = some none) (q : Q (.loc d) S) : WE (lcL src t tt te d ρ (n + 1) i S) Q := by
  unfold lcL
  rw [e]
  exact ⟨_, _, rfl, q⟩
theorem wlcGo (e : nth src i S = some (some v)) (et : t v ρ S = some (ρ1, S1)) (h : WE (tt ρ1 S1) fun c S2 => if c = true then WE (te ρ1 S2) fun y S3 => ∃ acc, S3[d]? = some (.lst acc) ∧ acc.length < LINE ∧ WE (lcL src t tt te d ρ n (i + 1) (S3.set d (.lst (acc ++ [y])))) Q else WE (lcL src t tt te d ρ n (i + 1) S2) Q) : WE (lcL src t tt te d ρ (n + 1) i S) Q := by
  obtain ⟨c, S2, e2, q⟩ := h
  unfold lcL
  simp only [e, et, e2]
  cases c with
  | false => exact q
  | true =>
    obtain ⟨y, S3, e3, acc, e4, hl, q⟩ := q
    simp only [e3, e4, if_pos hl]
    exact q
/-- quiet ones: the list laid, each part by itself -/
theorem lc_loop {S1 : Store} {xs : List PV} {k : Nat} {p : PV → Bool} {f : PV → PV} (hn : ∀ i acc, nth src i (S1 ++ [.lst acc]) = some xs[i]?) (ht : ∀ x ∈ xs, ∀ S', tt (ρ.set k (some x)) S' = .ok (p x) S') (he : ∀ x ∈ xs, ∀ S', te (ρ.set k (some x)) S' = .ok (f x) S') (hx : xs.length ≤ 1000000) :
    ∀ (r pre acc : List PV) (n : Nat), xs = pre ++ r → r.length < n → acc.length ≤ pre.length → Q (.loc S1.length) (S1 ++ [.lst (acc ++ (r.filter p).map f)]) → WE (lcL src (tgN k) tt te S1.length ρ n pre.length (S1 ++ [.lst acc])) Q
  | r, pre, acc, 0, _, h, _, _ => absurd h (Nat.not_lt_zero _)
  | [], pre, acc, n + 1, e, _, _, q => by
    refine wlcEnd ?_ (by simpa using q)
    rw [hn, e, List.append_nil, List.getElem?_eq_none (Nat.le_refl _)]
  | x :: r, pre, acc, n + 1, e, hl, ha, q => by
    have hm : x ∈ xs := by rw [e]; simp
    have hl : r.length + 1 < n + 1 := hl
    have hp : pre.length + (r.length + 1) ≤ 1000000 := by rw [e, List.length_append] at hx; exact hx
    refine wlcGo (v := x) (ρ1 := ρ.set k (some x)) (S1 := S1 ++ [.lst acc]) (by rw [hn, e]; simp) rfl ?_
    rw [ht x hm]
    refine ⟨_, _, rfl, ?_⟩
    have go : ∀ acc', acc'.length ≤ (pre ++ [x]).length → Q (.loc S1.length) (S1 ++ [.lst (acc' ++ (r.filter p).map f)]) → WE (lcL src (tgN k) tt te S1.length ρ n (pre.length + 1) (S1 ++ [.lst acc'])) Q := fun acc' h1 h2 => by
      have := lc_loop hn ht he hx r (pre ++ [x]) acc' n (by rw [e]; simp) (by omega) h1 h2
      rw [List.length_append] at this
      exact this
    cases hpx : p x with
    | false =>
      refine ifF rfl ?_
      refine go acc (by rw [List.length_append]; omega) ?_
      rw [List.filter_cons, hpx] at q
      exact q
    | true =>
      refine ifT rfl ?_
      rw [he x hm]
      refine ⟨_, _, rfl, acc, ?_, ?_, ?_⟩
      · rw [List.getElem?_append_right (Nat.le_refl _), Nat.sub_self]; rfl
      · show acc.length < 16777216; omega
      · rw [List.set_append_right _ _ (Nat.le_refl _), Nat.sub_self]
        refine go (acc ++ [f x]) (by rw [List.length_append, List.length_append]; simp; omega) ?_
        rw [List.filter_cons, hpx] at q
        simpa using q
/-- over a list of the store -/
theorem wLcL {k : Nat} {xs : List PV} {p : PV → Bool} {f : PV → PV} (h : WE (a ρ S) fun v S1 => ∃ l, v = .loc l ∧ S1[l]? = some (.lst xs) ∧ xs.length ≤ 1000000 ∧ (∀ x ∈ xs, ∀ S', tt ((wipeP ρ vs).set k (some x)) S' = .ok (p x) S') ∧ (∀ x ∈ xs, ∀ S', te ((wipeP ρ vs).set k (some x)) S' = .ok (f x) S') ∧ Q (.loc S1.length) (S1 ++ [.lst ((xs.filter p).map f)])) : WE (eLc (iOf a) (tgN k) tt te vs ρ S) Q := by
  refine wLc (wOf (h.imp fun v S1 ⟨l, e, h1, hx, ht, he, q⟩ => ?_))
  subst e
  refine ⟨_, srcL h1, ?_⟩
  have hl : l < S1.length := (List.getElem?_eq_some_iff.mp h1).1
  refine lc_loop (xs := xs) (fun i acc => nthL (by rw [List.getElem?_append_left hl]; exact h1)) ht he hx xs [] [] _ rfl ?_ (Nat.le_refl _) q
  rw [fuelL h1]
  omega
/-! dict comprehensions -/
theorem wDc (h : WE (it ρ S) fun src S1 => WE (dcL src t tt tk tv S1.length (wipeP ρ vs) (fuelOf src S1) 0 (S1 ++ [.dic []])) Q) : WE (eDc it t tt tk tv vs ρ S) Q := wBind h
theorem wdcEnd (e : nth src i S = some none) (q : Q (.loc d) S) : WE (dcL src t tt tk tv d ρ (n + 1) i S) Q := by
  unfold dcL
  rw [e]
  exact ⟨_, _, rfl, q⟩
theorem wdcGo (e : nth src i S = some (some v)) (et : t v ρ S = some (ρ1, S1)) (h : WE (tt ρ1 S1) fun c S2 => if c = true then WE (tk ρ1 S2) fun y S3 => WE (tv ρ1 S3) fun z S4 => ∃ kvs, S4[d]? = some (.dic kvs) ∧ keyP y = true ∧ kvs.length < LINE ∧ WE (dcL src t tt tk tv d ρ n (i + 1) (S4.set d (.dic (putP kvs y z)))) Q else WE (dcL src t tt tk tv d ρ n (i + 1) S2) Q) : WE (dcL src t tt tk tv d ρ (n + 1) i S) Q := by
  obtain ⟨c, S2, e2, q⟩ := h
  unfold dcL
  simp only [e, et, e2]
  cases c with
  | false => exact q
  | true =>
    obtain ⟨y, S3, e3, z, S4, e5, kvs, e4, hk, hl, q⟩ := q
    simp only [e3, e5, e4, if_pos (And.intro hk hl)]
    exact q
theorem putP_len (kvs : List (PV × PV)) (k v : PV) : (putP kvs k v).length ≤ kvs.length + 1 := by
  unfold putP
  split
  · rw [List.length_map]; omega
  · rw [List.length_append]; exact Nat.le_refl _
/-- quiet ones -/
theorem dc_loop {S1 : Store} {xs : List PV} {k : Nat} {p : PV → Bool} {f g : PV → PV} (hn : ∀ i acc, nth src i (S1 ++ [.dic acc]) = some xs[i]?) (ht : ∀ x ∈ xs, ∀ S', tt (ρ.set k (some x)) S' = .ok (p x) S') (hk : ∀ x ∈ xs, ∀ S', tk (ρ.set k (some x)) S' = .ok (f x) S' ∧ keyP (f x) = true) (hv : ∀ x ∈ xs, ∀ S', tv (ρ.set k (some x)) S' = .ok (g x) S') (hx : xs.length ≤ 1000000) :
    ∀ (r pre : List PV) (acc : List (PV × PV)) (n : Nat), xs = pre ++ r → r.length < n → acc.length ≤ pre.length → Q (.loc S1.length) (S1 ++ [.dic ((r.filter p).foldl (fun acc x => putP acc (f x) (g x)) acc)]) → WE (dcL src (tgN k) tt tk tv S1.length ρ n pre.length (S1 ++ [.dic acc])) Q
  | r, pre, acc, 0, _, h, _, _ => absurd h (Nat.not_lt_zero _)
  | [], pre, acc, n + 1, e, _, _, q => by
    refine wdcEnd ?_ (by simpa using q)
    rw [hn, e, List.append_nil, List.getElem?_eq_none (Nat.le_refl _)]
  | x :: r, pre, acc, n + 1, e, hl, ha, q => by
    have hm : x ∈ xs := by rw [e]; simp
    have hl : r.length + 1 < n + 1 := hl
    have hp : pre.length + (r.length + 1) ≤ 1000000 := by rw [e, List.length_append] at hx; exact hx
    refine wdcGo (v := x) (ρ1 := ρ.set k (some x)) (S1 := S1 ++ [.dic acc]) (by rw [hn, e]; simp) rfl ?_
    rw [ht x hm]
    refine ⟨_, _, rfl, ?_⟩
    have go : ∀ acc', acc'.length ≤ (pre ++ [x]).length → Q (.loc S1.length) (S1 ++ [.dic ((r.filter p).foldl (fun acc x => putP acc (f x) (g x)) acc')]) → WE (dcL src (tgN k) tt tk tv S1.length ρ n (pre.length + 1) (S1 ++ [.dic acc'])) Q := fun acc' h1 h2 => by
      have := dc_loop hn ht hk hv hx r (pre ++ [x]) acc' n (by rw [e]; simp) (by omega) h1 h2
      rw [List.length_append] at this
      exact this
    cases hpx : p x with
    | false =>
      refine ifF rfl ?_
      refine go acc (by rw [List.length_append]; omega) ?_
      rw [List.filter_cons, hpx] at q
      exact q
    | true =>
      refine ifT rfl ?_
      rw [(hk x hm _).1]
      refine ⟨_, _, rfl, ?_⟩
      refine WE.mk (hv x hm _) ?_
      refine ⟨acc, ?_, (hk x hm []).2, ?_, ?_⟩
      · rw [List.getElem?_append_right (Nat.le_refl _), Nat.sub_self]; rfl
      · show acc.length < 16777216; omega
      · rw [List.set_append_right _ _ (Nat.le_refl _), Nat.sub_self]
        refine go (putP acc (f x) (g x)) (by rw [List.length_append]; exact Nat.le_trans (putP_len ..) (by simp; omega)) ?_
        rw [List.filter_cons, hpx] at q
        exact q
/-- over a tuple -/
theorem wDcT {k : Nat} {xs : List PV} {p : PV → Bool} {f g : PV → PV} (h : WE (a ρ S) fun v S1 => v = .tup xs ∧ xs.length ≤ 1000000 ∧ (∀ x ∈ xs, ∀ S', tt ((wipeP ρ vs).set k (some x)) S' = .ok (p x) S') ∧ (∀ x ∈ xs, ∀ S', tk ((wipeP ρ vs).set k (some x)) S' = .ok (f x) S' ∧ keyP (f x) = true) ∧ (∀ x ∈ xs, ∀ S', tv ((wipeP ρ vs).set k (some x)) S' = .ok (g x) S') ∧ Q (.loc S1.length) (S1 ++ [.dic ((xs.filter p).foldl (fun acc x => putP acc (f x) (g x)) [])])) : WE (eDc (iOf a) (tgN k) tt tk tv vs ρ S) Q := by
  refine wDc (wOf (h.imp fun v S1 ⟨e, hx, ht, hk, hv, q⟩ => ?_))
  subst e
  refine ⟨_, rfl, ?_⟩
  exact dc_loop (xs := xs) (fun i acc => rfl) ht hk hv hx xs [] [] _ rfl (by show _ < xs.length + 1; omega) (Nat.le_refl _) q
/-! quiet generator expressions -/
theorem wTupS {fi : EF} {kk : List Nat} (h : WE (fi ρ S) fun v S1 => ∃ items, itemsQ v = some items ∧ (∀ a ∈ items, kk.length + a.length ≤ LINE) ∧ items.length ≤ LINE ∧ Q (.tup (items.map fun a => PV.str (kk ++ a))) S1) : WE (eTupS fi kk ρ S) Q := wBind (h.imp fun v S1 ⟨items, e, h1, h2, q⟩ => by
  rw [e]
  have : (items.all fun a => decide (kk.length + a.length ≤ LINE)) = true := by
    rw [List.all_eq_true]
    exact fun a ha => decide_eq_true (h1 a ha)
  simp only [this, decide_eq_true h2, Bool.and_self, if_true]
  exact ⟨_, _, rfl, q⟩)
theorem wAllS {fi : EF} {p : Nat → Bool} (h : WE (fi ρ S) fun v S1 => ∃ s, v = .str s ∧ Q (.bl (s.all p)) S1) : WE (eAllS fi p ρ S) Q := wBind (h.imp fun v S1 ⟨s, e, q⟩ => by subst e; exact ⟨_, _, rfl, q⟩)
/-! and, or as values; chains -/
theorem wAndV (h : WE (a ρ S) fun v S1 => ∃ c, truP v S1 = some c ∧ if c = true then WE (b ρ S1) Q else Q v S1) : WE (eAnd a b ρ S) Q := wBind (h.imp fun v S1 ⟨c, e, q⟩ => by
  rw [e]
  cases c with
  | true => exact q
  | false => exact ⟨_, _, rfl, q⟩)
theorem wOrV (h : WE (a ρ S) fun v S1 => ∃ c, truP v S1 = some c ∧ if c = true then Q v S1 else WE (b ρ S1) Q) : WE (eOr a b ρ S) Q := wBind (h.imp fun v S1 ⟨c, e, q⟩ => by
  rw [e]
  cases c with
  | true => exact ⟨_, _, rfl, q⟩
  | false => exact q)
theorem wRg1 (h : WE (as ρ S) fun vs S1 => ∃ n, vs = [.int n] ∧ small62 n = true ∧ QI (.rng 0 n.toNat) S1) : WE (iRg1 as ρ S) QI := wBind (h.imp fun vs S1 ⟨n, e, hs, q⟩ => by
  subst e
  simp only [hs, if_true]
  exact ⟨_, _, rfl, q⟩)
end
end Ev


namespace K01
open PySem PySem.Spec PyProof.Rows L2 Ev

def top (i : Nat) : Stmt := PySem.Challenge.pw_lambdastack_k01_terms_told_as_text.main.body.getD i (.Pass ⟨0, 0, 0, 0⟩)
local macro_rules | `(tactic| walk_at "vv") => `(tactic| (first | exact Or.inl rfl | exact Or.inr (Or.inl rfl) | exact Or.inr (Or.inr rfl)))
local macro_rules | `(tactic| walk_at "lo") => `(tactic| (first | exact Or.inl rfl | exact Or.inr rfl))
local macro_rules | `(tactic| walk_at "nd") => `(tactic| (decide +kernel))
local macro_rules | `(tactic| walk_at "blk") => `(tactic| (first | kernel_rfl | exact rfl))
local macro_rules | `(tactic| walk_at "gl") => `(tactic| (exact rfl))
local macro_rules | `(tactic| walk_at "genS") => `(tactic| (exact ⟨rfl, rfl, by decide +kernel, rfl, rfl, fun y hy e => absurd e (by revert y; decide +kernel)⟩))
/-! ### evaluators -/
def catch_TermError : Nat → Option Bool := fun n => if n = 1 then some true else none
def lam0 (c : Oracle) : EF := (eCall c 3 1 [] (eCons (eC (.str [])) eNil))
def lam1 (c : Oracle) : EF := (eCall c 3 1 [] (eCons (eC (.str [40])) eNil))
def lam2 (c : Oracle) : EF := (eCall c 3 1 [] (eCons (eC (.str [120, 41])) eNil))
def lam3 (c : Oracle) : EF := (eCall c 3 1 [] (eCons (eC (.str [40, 41])) eNil))
def lam4 (c : Oracle) : EF := (eCall c 3 1 [] (eCons (eC (.str [33, 46, 32, 120])) eNil))
def lam5 (c : Oracle) : EF := (eCall c 3 1 [] (eCons (eC (.str [33, 120, 32, 120])) eNil))
def lam6 (c : Oracle) : EF := (eCall c 3 1 [] (eCons (eC (.str [33, 120, 46])) eNil))
def lam7 (c : Oracle) : EF := (eCall c 3 1 [] (eCons (eC (.str [120, 32, 46, 32, 121])) eNil))
def lam8 (c : Oracle) : EF := (eCall c 3 1 [] (eCons (eC (.str [48, 49])) eNil))
def lam9 (c : Oracle) : EF := (eCall c 3 1 [] (eCons (eC (.str [120, 32, 43, 32, 121])) eNil))
def lam10 (c : Oracle) : EF := (eCall c 3 1 [] (eCons (eBin addP (eBin addP (eBin mulP (eC (.str [40])) (eC (.int 70))) (eC (.str [120]))) (eBin mulP (eC (.str [41])) (eC (.int 70)))) eNil))
def lam11 (c : Oracle) : EF := (eCall c 3 1 [] (eCons (eC (.str [33, 49, 46, 32, 120])) eNil))
def lam12 (c : Oracle) : EF := (eCall c 0 1 [] (eCons (eC (.str [97, 63])) eNil))
def lam13 (c : Oracle) : EF := (eCall c 6 2 [(.int 0)] (eCons (eC (.str [])) eNil))
def lam14 (c : Oracle) : EF := (eCall c 6 2 [(.int 0)] (eCons (eC (.int (-1))) eNil))
def lam15 (c : Oracle) : EF := (eCall c 6 2 [(.int 0)] (eCons (eTup (eCons (eC (.str [102, 117, 110])) (eCons (eC (.str [49])) (eCons (eC (.str [120])) eNil)))) eNil))
def lam16 (c : Oracle) : EF := (eCall c 6 2 [(.int 0)] (eCons (eTup (eCons (eC (.str [97, 116])) (eCons (eC (.str [120])) eNil))) eNil))
def lam17 (c : Oracle) : EF := (eCall c 6 2 [(.int 0)] (eCons (eTup (eCons (eC (.str [111, 100, 100])) (eCons (eC (.str [120])) (eCons (eC (.str [121])) eNil)))) eNil))
def lam18 (c : Oracle) : EF := (eCall c 5 3 [] (eCons (eTup eNil) (eCons (eC (.int 0)) (eCons (eC (.int 0)) eNil))))
abbrev LamV := Nat → Option (Store → R PV)
def lamF (c : Oracle) : LamV
  | 0 => some fun S => lam0 c [] S
  | 1 => some fun S => lam1 c [] S
  | 2 => some fun S => lam2 c [] S
  | 3 => some fun S => lam3 c [] S
  | 4 => some fun S => lam4 c [] S
  | 5 => some fun S => lam5 c [] S
  | 6 => some fun S => lam6 c [] S
  | 7 => some fun S => lam7 c [] S
  | 8 => some fun S => lam8 c [] S
  | 9 => some fun S => lam9 c [] S
  | 10 => some fun S => lam10 c [] S
  | 11 => some fun S => lam11 c [] S
  | 12 => some fun S => lam12 c [] S
  | 13 => some fun S => lam13 c [] S
  | 14 => some fun S => lam14 c [] S
  | 15 => some fun S => lam15 c [] S
  | 16 => some fun S => lam16 c [] S
  | 17 => some fun S => lam17 c [] S
  | 18 => some fun S => lam18 c [] S
  | _ => none
def b0 (c : Oracle) (l : LamV) : SF := (sSeq (sPar 2 3 (eCons (eLst eNil) (eCons (eC (.str [])) eNil))) (sSeq (sFor (iOf (eBin addP (eVar 0) (eC (.str [32])))) (tgN 1) (sSeq (sIf (bCmp (inP false) (eVar 1) (eC (.str [97, 98, 99, 100, 101, 102, 103, 104, 105, 106, 107, 108, 109, 110, 111, 112, 113, 114, 115, 116, 117, 118, 119, 120, 121, 122, 65, 66, 67, 68, 69, 70, 71, 72, 73, 74, 75, 76, 77, 78, 79, 80, 81, 82, 83, 84, 85, 86, 87, 88, 89, 90, 48, 49, 50, 51, 52, 53, 54, 55, 56, 57, 95]))) (sSeq (sAug 3 iaddP (eVar 1)) sNil) (sSeq (sAug 2 iaddP (eIf (bCmp neP (eVar 3) (eC (.str []))) (eLst (eCons (eVar 3) eNil)) (eLst eNil))) (sSeq (sAsg (eC (.str [])) (tgN 3)) (sSeq (sIf (bCmp (inP false) (eVar 1) (eC (.str [40, 41, 33, 46]))) (sSeq (sExpr (eAppd (eVar 2) (eCons (eVar 1) eNil))) sNil) (sSeq (sIf (bCmp (inP true) (eVar 1) (eC (.str [32, 10]))) (sSeq (sRaise 1) sNil) sNil) sNil)) sNil)))) sNil)) (sSeq (sRet (eCl tupP2 (eCons (eVar 2) eNil))) sNil)))
def b1 (c : Oracle) (l : LamV) : SF := (sSeq (sRet (eAnd (eBin neP (eVar 0) (eC (.str []))) (eAnd (eBin (inP true) (eBin ixP (eVar 0) (eC (.int 0))) (eC (.str [48, 49, 50, 51, 52, 53, 54, 55, 56, 57]))) (eAllS (eVar 0) (fun z => decide (z ∈ ([97, 98, 99, 100, 101, 102, 103, 104, 105, 106, 107, 108, 109, 110, 111, 112, 113, 114, 115, 116, 117, 118, 119, 120, 121, 122, 65, 66, 67, 68, 69, 70, 71, 72, 73, 74, 75, 76, 77, 78, 79, 80, 81, 82, 83, 84, 85, 86, 87, 88, 89, 90, 48, 49, 50, 51, 52, 53, 54, 55, 56, 57, 95] : List Nat))))))) sNil)
def b2 (c : Oracle) (l : LamV) : SF := (sSeq (sRet (eAnd (eB (bChn leP leP (eC (.int 1)) (eCl lenP (eCons (eVar 0) eNil)) (eC (.int 9)))) (eAnd (eAllS (eVar 0) (fun z => decide (z ∈ ([48, 49, 50, 51, 52, 53, 54, 55, 56, 57] : List Nat)))) (eOr (eBin neP (eBin ixP (eVar 0) (eC (.int 0))) (eC (.str [48]))) (eBin eqP (eVar 0) (eC (.str [48]))))))) sNil)
def b3 (c : Oracle) (l : LamV) : SF := (sSeq (sAsg (eCall c 0 1 [] (eCons (eVar 0) eNil)) (tgN 1)) (sSeq (sAsg (eCall c 4 3 [] (eCons (eVar 1) (eCons (eC (.int 0)) (eCons (eC (.int 0)) eNil)))) (tgT 2 (tgCons (tgN 2) (tgCons (tgN 3) tgNil)))) (sSeq (sIf (bCmp neP (eVar 3) (eCl lenP (eCons (eVar 1) eNil))) (sSeq (sRaise 1) sNil) sNil) (sSeq (sRet (eVar 2)) sNil))))
def b4 (c : Oracle) (l : LamV) : SF := (sSeq (sIf (bCmp gtP (eVar 2) (eC (.int 60))) (sSeq (sRaise 1) sNil) sNil) (sSeq (sAsg (eCall c 5 3 [] (eCons (eVar 0) (eCons (eVar 1) (eCons (eVar 2) eNil)))) (tgT 2 (tgCons (tgN 3) (tgCons (tgN 1) tgNil)))) (sSeq (whL (bAnd (bCmp ltP (eVar 1) (eCl lenP (eCons (eVar 0) eNil))) (bCmp (inP true) (eBin ixP (eVar 0) (eVar 1)) (eTup (eCons (eC (.str [41])) (eCons (eC (.str [46])) eNil))))) (sSeq (sAsg (eCall c 5 3 [] (eCons (eVar 0) (eCons (eVar 1) (eCons (eVar 2) eNil)))) (tgT 2 (tgCons (tgN 4) (tgCons (tgN 1) tgNil)))) (sSeq (sAsg (eTup (eCons (eC (.str [97, 116])) (eCons (eVar 3) (eCons (eVar 4) eNil)))) (tgN 3)) sNil)) 100000) (sSeq (sRet (eTup (eCons (eVar 3) (eCons (eVar 1) eNil)))) sNil))))
def b5 (c : Oracle) (l : LamV) : SF := (sSeq (sIf (bCmp geP (eVar 1) (eCl lenP (eCons (eVar 0) eNil))) (sSeq (sRaise 1) sNil) sNil) (sSeq (sAsg (eBin ixP (eVar 0) (eVar 1)) (tgN 3)) (sSeq (sIf (bCmp eqP (eVar 3) (eC (.str [40]))) (sSeq (sAsg (eCall c 4 3 [] (eCons (eVar 0) (eCons (eBin addP (eVar 1) (eC (.int 1))) (eCons (eBin addP (eVar 2) (eC (.int 1))) eNil)))) (tgT 2 (tgCons (tgN 5) (tgCons (tgN 6) tgNil)))) (sSeq (sIf (bOr (bCmp geP (eVar 6) (eCl lenP (eCons (eVar 0) eNil))) (bCmp neP (eBin ixP (eVar 0) (eVar 6)) (eC (.str [41])))) (sSeq (sRaise 1) sNil) sNil) (sSeq (sRet (eTup (eCons (eVar 5) (eCons (eBin addP (eVar 6) (eC (.int 1))) eNil)))) sNil))) sNil) (sSeq (sIf (bCmp eqP (eVar 3) (eC (.str [33]))) (sSeq (sPar 7 8 (eCons (eLst eNil) (eCons (eBin addP (eVar 1) (eC (.int 1))) eNil))) (sSeq (whL (bAnd (bCmp ltP (eVar 8) (eCl lenP (eCons (eVar 0) eNil))) (bTru (eCall c 1 1 [] (eCons (eBin ixP (eVar 0) (eVar 8)) eNil)))) (sSeq (sExpr (eAppd (eVar 7) (eCons (eBin ixP (eVar 0) (eVar 8)) eNil))) (sSeq (sAug 8 iaddP (eC (.int 1))) sNil)) 100000) (sSeq (sIf (bOr (bCmp eqP (eVar 7) (eLst eNil)) (bOr (bCmp geP (eVar 8) (eCl lenP (eCons (eVar 0) eNil))) (bCmp neP (eBin ixP (eVar 0) (eVar 8)) (eC (.str [46]))))) (sSeq (sRaise 1) sNil) sNil) (sSeq (sAsg (eCall c 4 3 [] (eCons (eVar 0) (eCons (eBin addP (eVar 8) (eC (.int 1))) (eCons (eBin addP (eVar 2) (eC (.int 1))) eNil)))) (tgT 2 (tgCons (tgN 5) (tgCons (tgN 6) tgNil)))) (sSeq (sFor (iOf (eUn revP (eVar 7))) (tgN 4) (sSeq (sAsg (eTup (eCons (eC (.str [102, 117, 110])) (eCons (eVar 4) (eCons (eVar 5) eNil)))) (tgN 5)) sNil)) (sSeq (sRet (eTup (eCons (eVar 5) (eCons (eVar 6) eNil)))) sNil)))))) sNil) (sSeq (sIf (bTru (eCall c 2 1 [] (eCons (eVar 3) eNil))) (sSeq (sRet (eTup (eCons (eCl intP (eCons (eVar 3) eNil)) (eCons (eBin addP (eVar 1) (eC (.int 1))) eNil)))) sNil) sNil) (sSeq (sIf (bNot (bTru (eCall c 1 1 [] (eCons (eVar 3) eNil)))) (sSeq (sRaise 1) sNil) sNil) (sSeq (sRet (eTup (eCons (eVar 3) (eCons (eBin addP (eVar 1) (eC (.int 1))) eNil)))) sNil)))))))
def b6 (c : Oracle) (l : LamV) : SF := (sSeq (sIf (bCmp gtP (eVar 1) (eC (.int 60))) (sSeq (sRaise 1) sNil) sNil) (sSeq (sIf (bTru (eIs ["str"] (eVar 0))) (sSeq (sIf (bNot (bTru (eCall c 1 1 [] (eCons (eVar 0) eNil)))) (sSeq (sRaise 1) sNil) sNil) sNil) (sSeq (sIf (bTru (eIs ["int"] (eVar 0))) (sSeq (sIf (bCmp ltP (eVar 0) (eC (.int 0))) (sSeq (sRaise 1) sNil) sNil) sNil) (sSeq (sIf (bAnd (bCmp eqP (eCl lenP (eCons (eVar 0) eNil)) (eC (.int 3))) (bCmp eqP (eBin ixP (eVar 0) (eC (.int 0))) (eC (.str [102, 117, 110])))) (sSeq (sIf (bNot (bTru (eCall c 1 1 [] (eCons (eBin ixP (eVar 0) (eC (.int 1))) eNil)))) (sSeq (sRaise 1) sNil) sNil) (sSeq (sExpr (eCall c 6 2 [] (eCons (eBin ixP (eVar 0) (eC (.int 2))) (eCons (eBin addP (eVar 1) (eC (.int 1))) eNil)))) sNil)) (sSeq (sIf (bAnd (bCmp eqP (eCl lenP (eCons (eVar 0) eNil)) (eC (.int 3))) (bCmp eqP (eBin ixP (eVar 0) (eC (.int 0))) (eC (.str [97, 116])))) (sSeq (sExpr (eCall c 6 2 [] (eCons (eBin ixP (eVar 0) (eC (.int 1))) (eCons (eBin addP (eVar 1) (eC (.int 1))) eNil)))) (sSeq (sExpr (eCall c 6 2 [] (eCons (eBin ixP (eVar 0) (eC (.int 2))) (eCons (eBin addP (eVar 1) (eC (.int 1))) eNil)))) sNil)) (sSeq (sRaise 1) sNil)) sNil)) sNil)) sNil)) sNil))
def b7 (c : Oracle) (l : LamV) : SF := (sSeq (sRet (eCall c 8 2 [] (eCons (eVar 0) (eCons (eC (.str [97, 108, 108])) eNil)))) sNil)
def b8 (c : Oracle) (l : LamV) : SF := (sSeq (sIf (bTru (eIs ["str"] (eVar 0))) (sSeq (sRet (eVar 0)) sNil) sNil) (sSeq (sIf (bTru (eIs ["int"] (eVar 0))) (sSeq (sRet (eUn fmtP (eVar 0))) sNil) sNil) (sSeq (sIf (bCmp eqP (eBin ixP (eVar 0) (eC (.int 0))) (eC (.str [102, 117, 110]))) (sSeq (sAsg (eLst (eCons (eBin ixP (eVar 0) (eC (.int 1))) eNil)) (tgN 3)) (sSeq (sAsg (eBin ixP (eVar 0) (eC (.int 2))) (tgN 4)) (sSeq (whL (bAnd (bTru (eIs ["tuple"] (eVar 4))) (bCmp eqP (eBin ixP (eVar 4) (eC (.int 0))) (eC (.str [102, 117, 110])))) (sSeq (sExpr (eAppd (eVar 3) (eCons (eBin ixP (eVar 4) (eC (.int 1))) eNil))) (sSeq (sAsg (eBin ixP (eVar 4) (eC (.int 2))) (tgN 4)) sNil)) 100000) (sSeq (sAsg (eBin addP (eBin addP (eBin addP (eC (.str [33])) (eM1 joinP (eC (.str [32])) (eVar 3))) (eC (.str [46, 32]))) (eCall c 8 2 [] (eCons (eVar 4) (eCons (eC (.str [97, 108, 108])) eNil)))) (tgN 2)) (sSeq (sRet (eIf (bCmp eqP (eVar 1) (eC (.str [97, 108, 108]))) (eVar 2) (eBin addP (eBin addP (eC (.str [40])) (eVar 2)) (eC (.str [41]))))) sNil))))) sNil) (sSeq (sAsg (eBin addP (eBin addP (eCall c 8 2 [] (eCons (eBin ixP (eVar 0) (eC (.int 1))) (eCons (eC (.str [102, 105, 114, 115, 116])) eNil))) (eC (.str [32]))) (eCall c 8 2 [] (eCons (eBin ixP (eVar 0) (eC (.int 2))) (eCons (eC (.str [108, 97, 115, 116])) eNil)))) (tgN 2)) (sSeq (sRet (eIf (bCmp eqP (eVar 1) (eC (.str [108, 97, 115, 116]))) (eBin addP (eBin addP (eC (.str [40])) (eVar 2)) (eC (.str [41]))) (eVar 2))) sNil)))))
def b9 (c : Oracle) (l : LamV) : SF := (sSeq (sAsg eDn (tgN 1)) (sSeq (sIf (bTru (eIs ["str"] (eVar 0))) (sSeq (sAsg (eC (.bl true)) (tgS (eVar 1) (eVar 0))) sNil) (sSeq (sIf (bAnd (bTru (eIs ["tuple"] (eVar 0))) (bCmp eqP (eBin ixP (eVar 0) (eC (.int 0))) (eC (.str [102, 117, 110])))) (sSeq (sAsg (eDc (iOf (eCall c 9 1 [] (eCons (eBin ixP (eVar 0) (eC (.int 2))) eNil))) (tgN 2) (bCmp neP (eVar 2) (eBin ixP (eVar 0) (eC (.int 1)))) (eVar 2) (eC (.bl true)) [2]) (tgN 1)) sNil) (sSeq (sIf (bTru (eIs ["tuple"] (eVar 0))) (sSeq (sAsg (eDc (iOf (eBin addP (eCall c 9 1 [] (eCons (eBin ixP (eVar 0) (eC (.int 1))) eNil)) (eCall c 9 1 [] (eCons (eBin ixP (eVar 0) (eC (.int 2))) eNil)))) (tgN 2) bYes (eVar 2) (eC (.bl true)) [2]) (tgN 1)) sNil) sNil) sNil)) sNil)) (sSeq (sRet (eCl tupP2 (eCons (eVar 1) eNil))) sNil)))
def b10 (c : Oracle) (l : LamV) : SF := (sSeq (sIf (bTru (eIs ["str"] (eVar 0))) (sSeq (sRet (eTup (eCons (eVar 0) eNil))) sNil) sNil) (sSeq (sIf (bTru (eIs ["int"] (eVar 0))) (sSeq (sRet (eTup eNil)) sNil) sNil) (sSeq (sAsg (eIf (bCmp eqP (eBin ixP (eVar 0) (eC (.int 0))) (eC (.str [102, 117, 110]))) (eTup (eCons (eBin ixP (eVar 0) (eC (.int 1))) eNil)) (eCall c 10 1 [] (eCons (eBin ixP (eVar 0) (eC (.int 1))) eNil))) (tgN 1)) (sSeq (sRet (eCl tupP2 (eCons (eDc (iOf (eBin addP (eVar 1) (eCall c 10 1 [] (eCons (eBin ixP (eVar 0) (eC (.int 2))) eNil)))) (tgN 2) bYes (eVar 2) (eC (.bl true)) [2]) eNil))) sNil))))
def b11 (c : Oracle) (l : LamV) : SF := (sSeq (sIf (bTru (eIs ["str", "int"] (eVar 0))) (sSeq (sRet (eC (.int 1))) sNil) sNil) (sSeq (sRet (eBin addP (eBin addP (eC (.int 1)) (eCall c 11 1 [] (eCons (eBin ixP (eVar 0) (eC (.int 2))) eNil))) (eIf (bCmp eqP (eBin ixP (eVar 0) (eC (.int 0))) (eC (.str [97, 116]))) (eCall c 11 1 [] (eCons (eBin ixP (eVar 0) (eC (.int 1))) eNil)) (eC (.int 0))))) sNil))
def b12 (c : Oracle) (l : LamV) : SF := (sSeq (sIf (bTru (eIs ["str", "int"] (eVar 0))) (sSeq (sRet (eC (.int 0))) sNil) sNil) (sSeq (sRet (eBin addP (eC (.int 1)) (eCl maxP (eCons (eCall c 12 1 [] (eCons (eBin ixP (eVar 0) (eC (.int 2))) eNil)) (eCons (eIf (bCmp eqP (eBin ixP (eVar 0) (eC (.int 0))) (eC (.str [97, 116]))) (eCall c 12 1 [] (eCons (eBin ixP (eVar 0) (eC (.int 1))) eNil)) (eC (.int 0))) eNil))))) sNil))
def b13 (c : Oracle) (l : LamV) : SF := (sSeq (sAsg (eLst eNil) (tgN 1)) (sSeq (whL (bAnd (bTru (eIs ["tuple"] (eVar 0))) (bCmp eqP (eBin ixP (eVar 0) (eC (.int 0))) (eC (.str [97, 116])))) (sSeq (sExpr (eAppd (eVar 1) (eCons (eBin ixP (eVar 0) (eC (.int 2))) eNil))) (sSeq (sAsg (eBin ixP (eVar 0) (eC (.int 1))) (tgN 0)) sNil)) 100000) (sSeq (sRet (eTup (eCons (eVar 0) (eCons (eCl tupP2 (eCons (eUn revP (eVar 1)) eNil)) eNil)))) sNil)))
def b14 (c : Oracle) (l : LamV) : SF := (sSeq (sFor (iOf (eVar 1)) (tgN 2) (sSeq (sAsg (eTup (eCons (eC (.str [97, 116])) (eCons (eVar 0) (eCons (eVar 2) eNil)))) (tgN 0)) sNil)) (sSeq (sRet (eVar 0)) sNil))
def b15 (c : Oracle) (l : LamV) : SF := (sSeq (sFor (iOf (eUn revP (eVar 0))) (tgN 2) (sSeq (sAsg (eTup (eCons (eC (.str [102, 117, 110])) (eCons (eVar 2) (eCons (eVar 1) eNil)))) (tgN 1)) sNil)) (sSeq (sRet (eVar 1)) sNil))
def b16 (c : Oracle) (l : LamV) : SF := (sSeq (sIf (bTru (eIs ["str", "int"] (eVar 0))) (sSeq (sRet (eTup (eCons (eVar 0) eNil))) sNil) sNil) (sSeq (sIf (bCmp eqP (eBin ixP (eVar 0) (eC (.int 0))) (eC (.str [102, 117, 110]))) (sSeq (sRet (eBin addP (eTup (eCons (eVar 0) eNil)) (eCall c 16 1 [] (eCons (eBin ixP (eVar 0) (eC (.int 2))) eNil)))) sNil) sNil) (sSeq (sRet (eBin addP (eBin addP (eTup (eCons (eVar 0) eNil)) (eCall c 16 1 [] (eCons (eBin ixP (eVar 0) (eC (.int 1))) eNil))) (eCall c 16 1 [] (eCons (eBin ixP (eVar 0) (eC (.int 2))) eNil)))) sNil)))
def b17 (c : Oracle) (l : LamV) : SF := (sSeq (sRet (eBin eqP (eCall c 9 1 [] (eCons (eVar 0) eNil)) (eTup eNil))) sNil)
def b18 (c : Oracle) (l : LamV) : SF := (sSeq (sIf (bTru (eIs ["str", "int"] (eVar 0))) (sSeq (sRet (eTup (eCons (eUn fmtP (eVar 0)) eNil))) sNil) sNil) (sSeq (sIf (bCmp eqP (eBin ixP (eVar 0) (eC (.int 0))) (eC (.str [102, 117, 110]))) (sSeq (sRet (eBin addP (eTup (eCons (eBin addP (eC (.str [33])) (eBin ixP (eVar 0) (eC (.int 1)))) eNil)) (eTupS (eCall c 18 1 [] (eCons (eBin ixP (eVar 0) (eC (.int 2))) eNil)) [32, 32]))) sNil) sNil) (sSeq (sRet (eBin addP (eTup (eCons (eC (.str [64])) eNil)) (eTupS (eBin addP (eCall c 18 1 [] (eCons (eBin ixP (eVar 0) (eC (.int 1))) eNil)) (eCall c 18 1 [] (eCons (eBin ixP (eVar 0) (eC (.int 2))) eNil))) [32, 32]))) sNil)))
def b19 (c : Oracle) (l : LamV) : SF := (sSeq (sIf (bChn ltP ltP (eBin subP (eC (.int 0)) (eC (.int 10))) (eVar 0) (eC (.int 10))) (sSeq (sRet (eLst (eCons (eCl absP (eCons (eVar 0) eNil)) (eCons (eC (.int 0)) (eCons (eC (.int 2)) eNil))))) sNil) sNil) (sSeq (sRet (eLst (eCons (eVar 0) (eCons (eBin addP (eC (.int 1)) (eBin modP (eCl intP (eCons (eVar 0) eNil)) (eC (.int 1009)))) (eCons (eCl intP (eCons (eBin geP (eVar 0) (eBin powP (eC (.int 10)) (eC (.int 18)))) eNil)) eNil))))) sNil))
def b20 (c : Oracle) (l : LamV) : SF := (sSeq (sIf (bOr (bCmp eqP (eBin ixP (eVar 0) (eC (.int 2))) (eC (.int 2))) (bAnd (bCmp eqP (eBin ixP (eVar 0) (eC (.int 2))) (eC (.int 1))) (bCmp gtP (eBin ixP (eVar 0) (eC (.int 0))) (eC (.int 0))))) (sSeq (sAsg (eBin modP (eCl intP (eCons (eBin ixP (eVar 0) (eC (.int 0))) eNil)) (eVar 1)) (tgN 2)) (sSeq (sAsg (eBin fdivP (eBin ixP (eVar 0) (eC (.int 0))) (eVar 1)) (tgS (eVar 0) (eC (.int 0)))) (sSeq (sRet (eVar 2)) sNil))) sNil) (sSeq (sAsg (eC (.int 0)) (tgS (eVar 0) (eC (.int 2)))) (sSeq (sIf (bCmp gtP (eVar 1) (eC (.int 100000000))) (sSeq (sRet (eBin modP (eCl intP (eCons (eBin addP (eBin mulP (eCall c 20 2 [] (eCons (eVar 0) (eCons (eBin addP (eBin fdivP (eVar 1) (eC (.int 100000000))) (eC (.int 1))) eNil))) (eC (.int 100000000))) (eCall c 20 2 [] (eCons (eVar 0) (eCons (eC (.int 100000000)) eNil)))) eNil)) (eVar 1))) sNil) sNil) (sSeq (sAsg (eBin modP (eCl intP (eCons (eBin addP (eBin addP (eBin mulP (eBin ixP (eVar 0) (eC (.int 0))) (eC (.int 48271))) (eBin mulP (eBin ixP (eVar 0) (eC (.int 1))) (eC (.int 69621)))) (eC (.int 11))) eNil)) (eC (.int 2147483647))) (tgS (eVar 0) (eC (.int 0)))) (sSeq (sAsg (eBin addP (eBin ixP (eVar 0) (eC (.int 1))) (eC (.int 1))) (tgS (eVar 0) (eC (.int 1)))) (sSeq (sRet (eBin modP (eCl intP (eCons (eBin fdivP (eBin ixP (eVar 0) (eC (.int 0))) (eC (.int 7))) eNil)) (eVar 1))) sNil))))))
def b21 (c : Oracle) (l : LamV) : SF := (sSeq (sAsg (eSl (eVar 0) oNo (oSo (eVar 1))) (tgN 2)) (sSeq (sIf (bCmp eqP (eVar 2) (eLst eNil)) (sSeq (sAsg (eLst (eCons (eC (.int 0)) eNil)) (tgN 2)) sNil) sNil) (sSeq (sRet (eLc (iOf (eVar 2)) (tgN 3) bYes (eCall c 19 1 [] (eCons (eVar 3) eNil)) [3])) sNil)))
def b22 (c : Oracle) (l : LamV) : SF := (sSeq (sTry (sSeq (sRet (eCallV l 0)) sNil) catch_TermError (sSeq (sRet (eC (.str [84, 101, 114, 109, 69, 114, 114, 111, 114]))) sNil)) sNil)
def b23 (c : Oracle) (l : LamV) : SF := (sSeq (sAsg (eCall c 20 2 [] (eCons (eVar 0) (eCons (eIf (bCmp gtP (eVar 1) (eC (.int 0))) (eC (.int 9)) (eC (.int 3))) eNil))) (tgN 3)) (sSeq (sIf (bCmp ltP (eVar 3) (eC (.int 3))) (sSeq (sRet (eIf (bCmp gtP (eCall c 20 2 [] (eCons (eVar 0) (eCons (eC (.int 9)) eNil))) (eC (.int 0))) (eBin ixP (eBin addP (eLst (eCons (eC (.str [120])) (eCons (eC (.str [121])) (eCons (eC (.str [122])) eNil)))) (eVar 2)) (eCall c 20 2 [] (eCons (eVar 0) (eCons (eBin addP (eC (.int 3)) (eCl lenP (eCons (eVar 2) eNil))) eNil)))) (eCall c 20 2 [] (eCons (eVar 0) (eCons (eC (.int 9)) eNil))))) sNil) sNil) (sSeq (sIf (bCmp ltP (eVar 3) (eC (.int 6))) (sSeq (sAsg (eBin ixP (eLst (eCons (eC (.str [120])) (eCons (eC (.str [121])) (eCons (eC (.str [122])) (eCons (eC (.str [117])) eNil))))) (eCall c 20 2 [] (eCons (eVar 0) (eCons (eC (.int 4)) eNil)))) (tgN 4)) (sSeq (sRet (eTup (eCons (eC (.str [102, 117, 110])) (eCons (eVar 4) (eCons (eCall c 23 3 [] (eCons (eVar 0) (eCons (eBin subP (eVar 1) (eC (.int 1))) (eCons (eVar 2) eNil)))) eNil))))) sNil)) sNil) (sSeq (sRet (eTup (eCons (eC (.str [97, 116])) (eCons (eCall c 23 3 [] (eCons (eVar 0) (eCons (eBin subP (eVar 1) (eC (.int 1))) (eCons (eVar 2) eNil)))) (eCons (eCall c 23 3 [] (eCons (eVar 0) (eCons (eBin subP (eVar 1) (eC (.int 1))) (eCons (eVar 2) eNil)))) eNil))))) sNil))))
def b24 (c : Oracle) (l : LamV) : SF := (sSeq (sIf (bNot (bTru (eIs ["tuple"] (eVar 0)))) (sSeq (sRet (eCl strP (eCons (eVar 0) eNil))) sNil) sNil) (sSeq (sIf (bCmp eqP (eBin ixP (eVar 0) (eC (.int 0))) (eC (.str [102, 117, 110]))) (sSeq (sRet (eBin addP (eBin addP (eBin addP (eBin addP (eC (.str [40, 33])) (eBin ixP (eVar 0) (eC (.int 1)))) (eC (.str [46]))) (eCall c 24 1 [] (eCons (eBin ixP (eVar 0) (eC (.int 2))) eNil))) (eC (.str [41])))) sNil) sNil) (sSeq (sRet (eBin addP (eBin addP (eBin addP (eBin addP (eC (.str [40])) (eCall c 24 1 [] (eCons (eBin ixP (eVar 0) (eC (.int 1))) eNil))) (eC (.str [10]))) (eCall c 24 1 [] (eCons (eBin ixP (eVar 0) (eC (.int 2))) eNil))) (eC (.str [41])))) sNil)))
def b25 (c : Oracle) (l : LamV) : SF := (sSeq (sIf (bNot (bTru (eIs ["tuple"] (eVar 0)))) (sSeq (sRet (eCl strP (eCons (eVar 0) eNil))) sNil) sNil) (sSeq (sIf (bCmp eqP (eBin ixP (eVar 0) (eC (.int 0))) (eC (.str [102, 117, 110]))) (sSeq (sAsg (eCall c 25 2 [] (eCons (eBin ixP (eVar 0) (eC (.int 2))) (eCons (eC (.str [97, 108, 108])) eNil))) (tgN 3)) (sSeq (sAsg (eBin addP (eBin addP (eC (.str [33])) (eBin ixP (eVar 0) (eC (.int 1)))) (eIf (bCmp eqP (eBin ixP (eVar 3) (eC (.int 0))) (eC (.str [33]))) (eBin addP (eC (.str [32])) (eSl (eVar 3) (oSo (eC (.int 1))) oNo)) (eBin addP (eC (.str [46, 32])) (eVar 3)))) (tgN 2)) (sSeq (sRet (eIf (bCmp eqP (eVar 1) (eC (.str [97, 108, 108]))) (eVar 2) (eBin addP (eBin addP (eC (.str [40])) (eVar 2)) (eC (.str [41]))))) sNil))) sNil) (sSeq (sAsg (eBin addP (eBin addP (eCall c 25 2 [] (eCons (eBin ixP (eVar 0) (eC (.int 1))) (eCons (eC (.str [102, 105, 114, 115, 116])) eNil))) (eC (.str [32]))) (eCall c 25 2 [] (eCons (eBin ixP (eVar 0) (eC (.int 2))) (eCons (eC (.str [108, 97, 115, 116])) eNil)))) (tgN 2)) (sSeq (sRet (eIf (bCmp neP (eVar 1) (eC (.str [108, 97, 115, 116]))) (eVar 2) (eBin addP (eBin addP (eC (.str [40])) (eVar 2)) (eC (.str [41]))))) sNil))))
def b26 (c : Oracle) (l : LamV) : SF := (sSeq (sIf (bTru (eIs ["int"] (eVar 0))) (sSeq (sRet (eLst eNil)) sNil) sNil) (sSeq (sIf (bTru (eIs ["str"] (eVar 0))) (sSeq (sRet (eLst (eCons (eVar 0) eNil))) sNil) sNil) (sSeq (sAsg (eIf (bCmp eqP (eBin ixP (eVar 0) (eC (.int 0))) (eC (.str [102, 117, 110]))) (eLc (iOf (eCall c 26 1 [] (eCons (eBin ixP (eVar 0) (eC (.int 2))) eNil))) (tgN 2) (bCmp neP (eVar 2) (eBin ixP (eVar 0) (eC (.int 1)))) (eVar 2) [2]) (eBin addP (eCall c 26 1 [] (eCons (eBin ixP (eVar 0) (eC (.int 1))) eNil)) (eCall c 26 1 [] (eCons (eBin ixP (eVar 0) (eC (.int 2))) eNil)))) (tgN 1)) (sSeq (sRet (eCl lstP (eCons (eCl dicP (eCons (eLc (iOf (eVar 1)) (tgN 2) bYes (eTup (eCons (eVar 2) (eCons (eC (.int 1)) eNil))) [2]) eNil)) eNil))) sNil))))
def b27 (c : Oracle) (l : LamV) : SF := (sSeq (sIf (bNot (bTru (eIs ["tuple"] (eVar 0)))) (sSeq (sRet (eBin mulP (eLst (eCons (eVar 0) eNil)) (eCl intP (eCons (eIs ["str"] (eVar 0)) eNil)))) sNil) sNil) (sSeq (sRet (eCl lstP (eCons (eCl dicP (eCons (eLc (iOf (eBin addP (eIf (bCmp eqP (eBin ixP (eVar 0) (eC (.int 0))) (eC (.str [102, 117, 110]))) (eLst (eCons (eBin ixP (eVar 0) (eC (.int 1))) eNil)) (eCall c 27 1 [] (eCons (eBin ixP (eVar 0) (eC (.int 1))) eNil))) (eCall c 27 1 [] (eCons (eBin ixP (eVar 0) (eC (.int 2))) eNil)))) (tgN 1) bYes (eTup (eCons (eVar 1) (eCons (eC (.int 1)) eNil))) [1]) eNil)) eNil))) sNil))
def b28 (c : Oracle) (l : LamV) : SF := (sSeq (sIf (bNot (bTru (eIs ["tuple"] (eVar 0)))) (sSeq (sRet (eLst (eCons (eVar 0) eNil))) sNil) sNil) (sSeq (sRet (eBin addP (eBin addP (eLst (eCons (eVar 0) eNil)) (eIf (bCmp eqP (eBin ixP (eVar 0) (eC (.int 0))) (eC (.str [102, 117, 110]))) (eLst eNil) (eCall c 28 1 [] (eCons (eBin ixP (eVar 0) (eC (.int 1))) eNil)))) (eCall c 28 1 [] (eCons (eBin ixP (eVar 0) (eC (.int 2))) eNil)))) sNil))
def b29 (c : Oracle) (l : LamV) : SF := (sSeq (sRet (eIf (bNot (bTru (eIs ["tuple"] (eVar 0)))) (eC (.int 0)) (eBin addP (eC (.int 1)) (eCl maxP (eCons (eCall c 29 1 [] (eCons (eBin ixP (eVar 0) (eC (.int 2))) eNil)) (eCons (eIf (bCmp eqP (eBin ixP (eVar 0) (eC (.int 0))) (eC (.str [102, 117, 110]))) (eC (.int 0)) (eCall c 29 1 [] (eCons (eBin ixP (eVar 0) (eC (.int 1))) eNil))) eNil)))))) sNil)
def b30 (c : Oracle) (l : LamV) : SF := (sSeq (sIf (bNot (bTru (eIs ["tuple"] (eVar 0)))) (sSeq (sRet (eLst (eCons (eCl strP (eCons (eVar 0) eNil)) eNil))) sNil) sNil) (sSeq (sAsg (eIf (bCmp eqP (eBin ixP (eVar 0) (eC (.int 0))) (eC (.str [102, 117, 110]))) (eCall c 30 1 [] (eCons (eBin ixP (eVar 0) (eC (.int 2))) eNil)) (eBin addP (eCall c 30 1 [] (eCons (eBin ixP (eVar 0) (eC (.int 1))) eNil)) (eCall c 30 1 [] (eCons (eBin ixP (eVar 0) (eC (.int 2))) eNil)))) (tgN 1)) (sSeq (sRet (eBin addP (eLst (eCons (eIf (bCmp eqP (eBin ixP (eVar 0) (eC (.int 0))) (eC (.str [102, 117, 110]))) (eBin addP (eC (.str [33])) (eBin ixP (eVar 0) (eC (.int 1)))) (eC (.str [64]))) eNil)) (eLc (iOf (eVar 1)) (tgN 2) bYes (eBin addP (eC (.str [32, 32])) (eVar 2)) [2]))) sNil)))
def b31 (c : Oracle) (l : LamV) : SF := (sSeq (sAsg (eCall c 3 1 [] (eCons (eC (.str [33, 102, 32, 120, 46, 32, 102, 32, 40, 102, 32, 49, 50, 41, 32, 33, 121, 46, 32, 121, 32, 120, 95])) eNil)) (tgN 0)) (sSeq (sAsg (eLst (eCons (eVar 0) (eCons (eCall c 7 1 [] (eCons (eVar 0) eNil)) (eCons (eCall c 0 1 [] (eCons (eC (.str [33, 120, 46, 32, 40, 120, 32, 121, 95, 41])) eNil)) (eCons (eCall c 1 1 [] (eCons (eC (.str [97, 49, 95])) eNil)) (eCons (eCall c 1 1 [] (eCons (eC (.str [95, 97])) eNil)) (eCons (eCall c 1 1 [] (eCons (eC (.str [49, 97])) eNil)) (eCons (eCall c 1 1 [] (eCons (eC (.str [])) eNil)) (eCons (eCall c 2 1 [] (eCons (eC (.str [48])) eNil)) (eCons (eCall c 2 1 [] (eCons (eC (.str [48, 49])) eNil)) eNil)))))))))) (tgN 1)) (sSeq (sAsg (eBin addP (eVar 1) (eLst (eCons (eCall c 2 1 [] (eCons (eC (.str [49, 50, 51, 52, 53, 54, 55, 56, 57, 48])) eNil)) (eCons (eCall c 9 1 [] (eCons (eVar 0) eNil)) (eCons (eCall c 10 1 [] (eCons (eVar 0) eNil)) (eCons (eCall c 11 1 [] (eCons (eVar 0) eNil)) (eCons (eCall c 12 1 [] (eCons (eVar 0) eNil)) eNil))))))) (tgN 1)) (sSeq (sAsg (eBin addP (eVar 1) (eLst (eCons (eCall c 13 1 [] (eCons (eCall c 3 1 [] (eCons (eC (.str [102, 32, 40, 103, 32, 120, 41, 32, 121])) eNil)) eNil)) (eCons (eCall c 14 2 [] (eCons (eC (.str [102])) (eCons (eTup (eCons (eC (.str [120])) (eCons (eC (.int 3)) eNil))) eNil))) (eCons (eCall c 15 2 [] (eCons (eTup (eCons (eC (.str [97])) (eCons (eC (.str [98])) eNil))) (eCons (eC (.str [99])) eNil))) (eCons (eCl lenP (eCons (eCall c 16 1 [] (eCons (eVar 0) eNil)) eNil)) (eCons (eCall c 17 1 [] (eCons (eVar 0) eNil)) (eCons (eCall c 17 1 [] (eCons (eCall c 3 1 [] (eCons (eC (.str [33, 120, 46, 32, 120])) eNil)) eNil)) (eCons (eCall c 18 1 [] (eCons (eCall c 3 1 [] (eCons (eC (.str [40, 33, 120, 46, 32, 120, 41, 32, 53])) eNil)) eNil)) (eCons (eCall c 8 2 [] (eCons (eCall c 3 1 [] (eCons (eC (.str [102, 32, 120])) eNil)) (eCons (eC (.str [108, 97, 115, 116])) eNil))) (eCons (eCall c 8 2 [] (eCons (eCall c 3 1 [] (eCons (eC (.str [33, 120, 46, 32, 120])) eNil)) (eCons (eC (.str [102, 105, 114, 115, 116])) eNil))) eNil))))))))))) (tgN 1)) (sSeq (sAsg (eBin addP (eVar 1) (eLst (eCons (eCall c 4 3 [] (eCons (eTup (eCons (eC (.str [120])) (eCons (eC (.str [121])) (eCons (eC (.str [41])) eNil)))) (eCons (eC (.int 0)) (eCons (eC (.int 0)) eNil)))) (eCons (eCall c 5 3 [] (eCons (eTup (eCons (eC (.str [40])) (eCons (eC (.str [120])) (eCons (eC (.str [41])) (eCons (eC (.str [121])) eNil))))) (eCons (eC (.int 0)) (eCons (eC (.int 0)) eNil)))) (eCons (eCall c 7 1 [] (eCons (eCall c 3 1 [] (eCons (eC (.str [40, 40, 40, 102, 32, 120, 41, 32, 121, 41, 32, 40, 103, 32, 122, 41, 41])) eNil)) eNil)) (eCons (eCall c 7 1 [] (eCons (eCall c 3 1 [] (eCons (eC (.str [33, 120, 46, 32, 40, 33, 121, 46, 32, 120, 41, 32, 120])) eNil)) eNil)) (eCons (eCall c 6 2 [(.int 0)] (eCons (eVar 0) eNil)) (eCons (eCall c 7 1 [] (eCons (eC (.int 7)) eNil)) eNil)))))))) (tgN 1)) (sSeq (sAsg (eLst (eCons (eLam 0) (eCons (eLam 1) (eCons (eLam 2) (eCons (eLam 3) (eCons (eLam 4) eNil)))))) (tgN 2)) (sSeq (sAsg (eBin addP (eVar 2) (eLst (eCons (eLam 5) (eCons (eLam 6) (eCons (eLam 7) (eCons (eLam 8) (eCons (eLam 9) eNil))))))) (tgN 2)) (sSeq (sAsg (eBin addP (eVar 2) (eLst (eCons (eLam 10) (eCons (eLam 11) (eCons (eLam 12) (eCons (eLam 13) (eCons (eLam 14) eNil))))))) (tgN 2)) (sSeq (sAsg (eBin addP (eVar 2) (eLst (eCons (eLam 15) (eCons (eLam 16) (eCons (eLam 17) (eCons (eLam 18) eNil)))))) (tgN 2)) (sSeq (sIf (bOr (bCmp neP (eLc (iEn (eCons (eVar 2) eNil)) (tgT 2 (tgCons (tgN 4) (tgCons (tgN 5) tgNil))) (bCmp neP (eCall c 22 1 [] (eCons (eVar 5) eNil)) (eC (.str [84, 101, 114, 109, 69, 114, 114, 111, 114]))) (eVar 4) [4, 5]) (eLst eNil)) (bOr (bCmp neP (eC (.int 60)) (eC (.int 60))) (bCmp neP (eCl lenP (eCons (eC (.str [97, 98, 99, 100, 101, 102, 103, 104, 105, 106, 107, 108, 109, 110, 111, 112, 113, 114, 115, 116, 117, 118, 119, 120, 121, 122, 65, 66, 67, 68, 69, 70, 71, 72, 73, 74, 75, 76, 77, 78, 79, 80, 81, 82, 83, 84, 85, 86, 87, 88, 89, 90, 48, 49, 50, 51, 52, 53, 54, 55, 56, 57, 95])) eNil)) (eC (.int 63))))) (sSeq (sRet (eC (.bl false))) sNil) sNil) (sSeq (sAsg (eLst (eCons (eTup (eCons (eC (.str [102, 117, 110])) (eCons (eC (.str [102])) (eCons (eTup (eCons (eC (.str [102, 117, 110])) (eCons (eC (.str [120])) (eCons (eTup (eCons (eC (.str [97, 116])) (eCons (eTup (eCons (eC (.str [97, 116])) (eCons (eC (.str [102])) (eCons (eTup (eCons (eC (.str [97, 116])) (eCons (eC (.str [102])) (eCons (eC (.int 12)) eNil)))) eNil)))) (eCons (eTup (eCons (eC (.str [102, 117, 110])) (eCons (eC (.str [121])) (eCons (eTup (eCons (eC (.str [97, 116])) (eCons (eC (.str [121])) (eCons (eC (.str [120, 95])) eNil)))) eNil)))) eNil)))) eNil)))) eNil)))) (eCons (eC (.str [33, 102, 32, 120, 46, 32, 102, 32, 40, 102, 32, 49, 50, 41, 32, 40, 33, 121, 46, 32, 121, 32, 120, 95, 41])) (eCons (eTup (eCons (eC (.str [33])) (eCons (eC (.str [120])) (eCons (eC (.str [46])) (eCons (eC (.str [40])) (eCons (eC (.str [120])) (eCons (eC (.str [121, 95])) (eCons (eC (.str [41])) eNil)))))))) (eCons (eC (.bl true)) (eCons (eC (.bl true)) (eCons (eC (.bl false)) (eCons (eC (.bl false)) (eCons (eC (.bl true)) (eCons (eC (.bl false)) (eCons (eC (.bl false)) (eCons (eTup (eCons (eC (.str [120, 95])) eNil)) (eCons (eTup (eCons (eC (.str [102])) (eCons (eC (.str [120])) (eCons (eC (.str [121])) (eCons (eC (.str [120, 95])) eNil))))) (eCons (eC (.int 12)) (eCons (eC (.int 5)) (eCons (eTup (eCons (eC (.str [102])) (eCons (eTup (eCons (eTup (eCons (eC (.str [97, 116])) (eCons (eC (.str [103])) (eCons (eC (.str [120])) eNil)))) (eCons (eC (.str [121])) eNil))) eNil))) (eCons (eTup (eCons (eC (.str [97, 116])) (eCons (eTup (eCons (eC (.str [97, 116])) (eCons (eC (.str [102])) (eCons (eC (.str [120])) eNil)))) (eCons (eC (.int 3)) eNil)))) (eCons (eTup (eCons (eC (.str [102, 117, 110])) (eCons (eC (.str [97])) (eCons (eTup (eCons (eC (.str [102, 117, 110])) (eCons (eC (.str [98])) (eCons (eC (.str [99])) eNil)))) eNil)))) (eCons (eC (.int 12)) (eCons (eC (.bl false)) (eCons (eC (.bl true)) (eCons (eTup (eCons (eC (.str [64])) (eCons (eC (.str [32, 32, 33, 120])) (eCons (eC (.str [32, 32, 32, 32, 120])) (eCons (eC (.str [32, 32, 53])) eNil))))) (eCons (eC (.str [40, 102, 32, 120, 41])) (eCons (eC (.str [40, 33, 120, 46, 32, 120, 41])) (eCons (eTup (eCons (eTup (eCons (eC (.str [97, 116])) (eCons (eC (.str [120])) (eCons (eC (.str [121])) eNil)))) (eCons (eC (.int 2)) eNil))) (eCons (eTup (eCons (eC (.str [120])) (eCons (eC (.int 3)) eNil))) (eCons (eC (.str [102, 32, 120, 32, 121, 32, 40, 103, 32, 122, 41])) (eCons (eC (.str [33, 120, 46, 32, 40, 33, 121, 46, 32, 120, 41, 32, 120])) (eCons (eC .non) (eCons (eC (.str [55])) eNil)))))))))))))))))))))))))))))) (tgN 3)) (sSeq (sRet (eBin eqP (eVar 1) (eVar 3))) sNil))))))))))))
def b32 (c : Oracle) (l : LamV) : SF := (sSeq (sFor (iOf (eCall c 21 2 [] (eCons (eVar 0) (eCons (eC (.int 1)) eNil)))) (tgN 1) (sSeq (sAsg (eCall c 23 3 [] (eCons (eVar 1) (eCons (eC (.int 5)) (eCons (eLst (eCons (eC (.str [119, 49])) (eCons (eC (.str [118, 95])) eNil))) eNil)))) (tgN 2)) (sSeq (sAsg (eCall c 7 1 [] (eCons (eVar 2) eNil)) (tgN 3)) (sSeq (sIf (bOr (bCmp neP (eCall c 3 1 [] (eCons (eCall c 24 1 [] (eCons (eVar 2) eNil)) eNil)) (eVar 2)) (bOr (bCmp neP (eCall c 3 1 [] (eCons (eVar 3) eNil)) (eVar 2)) (bOr (bCmp notNP (eCall c 6 2 [(.int 0)] (eCons (eVar 2) eNil)) (eC .non)) (bCmp neP (eCl lstP (eCons (eCall c 0 1 [] (eCons (eCall c 24 1 [] (eCons (eVar 2) eNil)) eNil)) eNil)) (eCl lstP (eCons (eCall c 0 1 [] (eCons (eM1 joinP (eC (.str [32])) (eCall c 0 1 [] (eCons (eCall c 24 1 [] (eCons (eVar 2) eNil)) eNil))) eNil)) eNil)))))) (sSeq (sRet (eC (.bl false))) sNil) sNil) (sSeq (sIf (bOr (bCmp neP (eVar 3) (eCall c 25 2 [] (eCons (eVar 2) (eCons (eC (.str [97, 108, 108])) eNil)))) (bOr (bCmp neP (eCall c 8 2 [] (eCons (eVar 2) (eCons (eC (.str [102, 105, 114, 115, 116])) eNil))) (eCall c 25 2 [] (eCons (eVar 2) (eCons (eC (.str [102, 105, 114, 115, 116])) eNil)))) (bCmp neP (eCall c 8 2 [] (eCons (eVar 2) (eCons (eC (.str [108, 97, 115, 116])) eNil))) (eCall c 25 2 [] (eCons (eVar 2) (eCons (eC (.str [108, 97, 115, 116])) eNil)))))) (sSeq (sRet (eC (.bl false))) sNil) sNil) (sSeq (sAsg (eCall c 26 1 [] (eCons (eVar 2) eNil)) (tgN 4)) (sSeq (sIf (bOr (bCmp neP (eCl lstP (eCons (eCall c 9 1 [] (eCons (eVar 2) eNil)) eNil)) (eVar 4)) (bOr (bCmp neP (eCl lstP (eCons (eCall c 10 1 [] (eCons (eVar 2) eNil)) eNil)) (eCall c 27 1 [] (eCons (eVar 2) eNil))) (bOr (bCmp neP (eCl lstP (eCons (eCall c 16 1 [] (eCons (eVar 2) eNil)) eNil)) (eCall c 28 1 [] (eCons (eVar 2) eNil))) (bOr (bCmp neP (eCall c 11 1 [] (eCons (eVar 2) eNil)) (eCl lenP (eCons (eCall c 28 1 [] (eCons (eVar 2) eNil)) eNil))) (bCmp neP (eCall c 12 1 [] (eCons (eVar 2) eNil)) (eCall c 29 1 [] (eCons (eVar 2) eNil))))))) (sSeq (sRet (eC (.bl false))) sNil) sNil) (sSeq (sIf (bOr (bCmp neP (eCall c 17 1 [] (eCons (eVar 2) eNil)) (eBin eqP (eVar 4) (eLst eNil))) (bCmp neP (eCl lstP (eCons (eCall c 18 1 [] (eCons (eVar 2) eNil)) eNil)) (eCall c 30 1 [] (eCons (eVar 2) eNil)))) (sSeq (sRet (eC (.bl false))) sNil) sNil) (sSeq (sPar 7 8 (eCons (eVar 2) (eCons (eLst eNil) eNil))) (sSeq (whL (bAnd (bTru (eIs ["tuple"] (eVar 7))) (bCmp eqP (eBin ixP (eVar 7) (eC (.int 0))) (eC (.str [97, 116])))) (sSeq (sPar 7 8 (eCons (eBin ixP (eVar 7) (eC (.int 1))) (eCons (eBin addP (eLst (eCons (eBin ixP (eVar 7) (eC (.int 2))) eNil)) (eVar 8)) eNil))) sNil) 100000) (sSeq (sIf (bOr (bCmp neP (eCall c 13 1 [] (eCons (eVar 2) eNil)) (eTup (eCons (eVar 7) (eCons (eCl tupP2 (eCons (eVar 8) eNil)) eNil)))) (bCmp neP (eCall c 14 2 [] (eCons (eVar 7) (eCons (eVar 8) eNil))) (eVar 2))) (sSeq (sRet (eC (.bl false))) sNil) sNil) (sSeq (sAsg (eCall c 15 2 [] (eCons (eTup (eCons (eC (.str [97])) (eCons (eC (.str [98])) (eCons (eC (.str [99])) eNil)))) (eCons (eVar 2) eNil))) (tgN 5)) (sSeq (sIf (bOr (bCmp neP (eVar 5) (eTup (eCons (eC (.str [102, 117, 110])) (eCons (eC (.str [97])) (eCons (eTup (eCons (eC (.str [102, 117, 110])) (eCons (eC (.str [98])) (eCons (eTup (eCons (eC (.str [102, 117, 110])) (eCons (eC (.str [99])) (eCons (eVar 2) eNil)))) eNil)))) eNil))))) (bCmp neP (eCall c 14 2 [] (eCons (eVar 2) (eCons (eTup (eCons (eC (.str [120])) (eCons (eC (.int 1)) eNil))) eNil))) (eTup (eCons (eC (.str [97, 116])) (eCons (eTup (eCons (eC (.str [97, 116])) (eCons (eVar 2) (eCons (eC (.str [120])) eNil)))) (eCons (eC (.int 1)) eNil)))))) (sSeq (sRet (eC (.bl false))) sNil) sNil) (sSeq (sAsg (eM1 joinP (eC (.str [])) (eLc (iRg1 (eCons (eCall c 20 2 [] (eCons (eVar 1) (eCons (eC (.int 4)) eNil))) eNil)) (tgN 9) bYes (eBin ixP (eC (.str [97, 49, 95, 90])) (eCall c 20 2 [] (eCons (eVar 1) (eCons (eC (.int 4)) eNil)))) [9])) (tgN 6)) (sSeq (sIf (bCmp neP (eCall c 1 1 [] (eCons (eVar 6) eNil)) (eAnd (eBin neP (eVar 6) (eC (.str []))) (eBin (inP false) (eBin ixP (eVar 6) (eC (.int 0))) (eC (.str [97, 95, 90]))))) (sSeq (sRet (eC (.bl false))) sNil) sNil) sNil))))))))))))))) (sSeq (sRet (eCall c 31 0 [] eNil)) sNil))
def bodyOf (c : Oracle) (l : LamV) : Nat → List PV → Store → R PV
  | 0 => runB 4 (b0 c l)
  | 1 => runB 1 (b1 c l)
  | 2 => runB 1 (b2 c l)
  | 3 => runB 4 (b3 c l)
  | 4 => runB 5 (b4 c l)
  | 5 => runB 9 (b5 c l)
  | 6 => runB 2 (b6 c l)
  | 7 => runB 1 (b7 c l)
  | 8 => runB 5 (b8 c l)
  | 9 => runB 3 (b9 c l)
  | 10 => runB 3 (b10 c l)
  | 11 => runB 1 (b11 c l)
  | 12 => runB 1 (b12 c l)
  | 13 => runB 2 (b13 c l)
  | 14 => runB 3 (b14 c l)
  | 15 => runB 3 (b15 c l)
  | 16 => runB 1 (b16 c l)
  | 17 => runB 1 (b17 c l)
  | 18 => runB 1 (b18 c l)
  | 19 => runB 1 (b19 c l)
  | 20 => runB 3 (b20 c l)
  | 21 => runB 4 (b21 c l)
  | 22 => runB 1 (b22 c l)
  | 23 => runB 5 (b23 c l)
  | 24 => runB 1 (b24 c l)
  | 25 => runB 4 (b25 c l)
  | 26 => runB 3 (b26 c l)
  | 27 => runB 2 (b27 c l)
  | 28 => runB 1 (b28 c l)
  | 29 => runB 1 (b29 c l)
  | 30 => runB 3 (b30 c l)
  | 31 => runB 6 (b31 c l)
  | 32 => runB 10 (b32 c l)
  | _ => fun _ _ => .bad
def callL : Nat → Oracle × LamV
  | 0 => (fun _ _ _ => .bad, fun _ => none)
  | d + 1 => (bodyOf (callL d).1 (callL d).2, lamF (callL d).1)
def callF (d : Nat) : Oracle := (callL d).1
def lamP (d : Nat) : LamV := (callL d).2
def lamsE : Expr → List (Arguments × Expr × Scope)
  | .List es _ => es.filterMap fun e => match e with
    | .Lambda a b s _ => some (a, b, s)
    | _ => none
  | .BinOp _ _ b _ => lamsE b
  | _ => []
def lamsS : Stmt → List (Arguments × Expr × Scope)
  | .Assign _ v _ => lamsE v
  | _ => []
def ltK (j : Nat) : LamT := match ((defBody (top 38)).flatMap lamsS)[j]? with
  | some (a, b, s) => ⟨"_law_plain.<locals>.<lambda>", a, b, s⟩
  | none => ⟨"", ⟨[], [], none, [], [], none, []⟩, .Name "" ⟨0, 0, 0, 0⟩, ⟨.function, [], false, false, []⟩⟩
/-! ### what the top has written -/
structure Hd (K : PySem.W.Frag) (mg : Str → Option Value) (base : Heap) (g : G) (C_TermError : Addr) (cd : Nat → Addr) (tb : Nat → Addr) : Prop where
  gK : K = g.K
  m_abs : mg "abs" = none
  m_all : mg "all" = none
  m_dict : mg "dict" = none
  m_enumerate : mg "enumerate" = none
  m_int : mg "int" = none
  m_isinstance : mg "isinstance" = none
  m_len : mg "len" = none
  m_list : mg "list" = none
  m_max : mg "max" = none
  m_range : mg "range" = none
  m_str : mg "str" = none
  m_tuple : mg "tuple" = none
  c_MOST_DEEP : ∃ t, mg "MOST_DEEP" = some (.int 60 t)
  c_SIGNS_OF_NAMES : ∃ t, mg "SIGNS_OF_NAMES" = some (.str ⟨([97, 98, 99, 100, 101, 102, 103, 104, 105, 106, 107, 108, 109, 110, 111, 112, 113, 114, 115, 116, 117, 118, 119, 120, 121, 122, 65, 66, 67, 68, 69, 70, 71, 72, 73, 74, 75, 76, 77, 78, 79, 80, 81, 82, 83, 84, 85, 86, 87, 88, 89, 90, 48, 49, 50, 51, 52, 53, 54, 55, 56, 57, 95] : List Nat).toArray⟩ t)
  x_TermError : ExcT K mg g "TermError" 1 C_TermError
  t_TermError : Cat g K (.ref C_TermError) catch_TermError
  tb1 : GxR.TabB base mg (cd 1) (tb 1)
  hT1 : (tb 1, none) ∈ g.T
  hu1 : ∀ p ∈ g.T, p.1 = tb 1 → p.2 = none
  tb2 : GxR.TabB base mg (cd 2) (tb 2)
  hT2 : (tb 2, none) ∈ g.T
  hu2 : ∀ p ∈ g.T, p.1 = tb 2 → p.2 = none
  tb18 : GxR.TabB base mg (cd 18) (tb 18)
  hT18 : (tb 18, none) ∈ g.T
  hu18 : ∀ p ∈ g.T, p.1 = tb 18 → p.2 = none
  tb31 : LamX.TabB base mg (cd 31) (tb 31)
  hT31 : (tb 31, some ("_law_plain.<locals>.<lambda>" : Str)) ∈ g.T
  hu31 : ∀ p ∈ g.T, p.1 = tb 31 → p.2 = some ("_law_plain.<locals>.<lambda>" : Str)
  lt : ∀ j, g.lt j = ltK j
structure FsF (P : Program) (w : World) (K : PySem.W.Frag) (mg : Str → Option Value) (base : Heap) (g : G) (c : Oracle) (k : Nat) : Prop where
  f0 : FnF P w K mg base g c k 0 "words_of" 1 []
  f1 : FnF P w K mg base g c k 1 "is_name" 1 []
  f2 : FnF P w K mg base g c k 2 "is_number" 1 []
  f3 : FnF P w K mg base g c k 3 "read_term" 1 []
  f4 : FnF P w K mg base g c k 4 "read_row" 3 []
  f5 : FnF P w K mg base g c k 5 "read_part" 3 []
  f6 : FnF P w K mg base g c k 6 "check_term" 2 []
  f6d1 : FnF P w K mg base g c k 6 "check_term" 2 [(.int 0)]
  f7 : FnF P w K mg base g c k 7 "told_term" 1 []
  f8 : FnF P w K mg base g c k 8 "told_in" 2 []
  f9 : FnF P w K mg base g c k 9 "free_names" 1 []
  f10 : FnF P w K mg base g c k 10 "all_names" 1 []
  f11 : FnF P w K mg base g c k 11 "size_of" 1 []
  f12 : FnF P w K mg base g c k 12 "depth_of" 1 []
  f13 : FnF P w K mg base g c k 13 "row_of" 1 []
  f14 : FnF P w K mg base g c k 14 "put_at" 2 []
  f15 : FnF P w K mg base g c k 15 "funs_over" 2 []
  f16 : FnF P w K mg base g c k 16 "within" 1 []
  f17 : FnF P w K mg base g c k 17 "is_closed" 1 []
  f18 : FnF P w K mg base g c k 18 "told_tree" 1 []
  f19 : FnF P w K mg base g c k 19 "_law_dice" 1 []
  f20 : FnF P w K mg base g c k 20 "_law_roll" 2 []
  f21 : FnF P w K mg base g c k 21 "_law_rounds" 2 []
  f22 : FnF P w K mg base g c k 22 "_law_told" 1 []
  f23 : FnF P w K mg base g c k 23 "_law_term" 3 []
  f24 : FnF P w K mg base g c k 24 "_law_full" 1 []
  f25 : FnF P w K mg base g c k 25 "_law_text" 2 []
  f26 : FnF P w K mg base g c k 26 "_law_free" 1 []
  f27 : FnF P w K mg base g c k 27 "_law_all" 1 []
  f28 : FnF P w K mg base g c k 28 "_law_within" 1 []
  f29 : FnF P w K mg base g c k 29 "_law_depth" 1 []
  f30 : FnF P w K mg base g c k 30 "_law_lines" 1 []
  f31 : FnF P w K mg base g c k 31 "_law_plain" 0 []
structure Fs (P : Program) (w : World) (K : PySem.W.Frag) (mg : Str → Option Value) (base : Heap) (g : G) (c : Oracle) (l : LamV) (k : Nat) : Prop extends FsF P w K mg base g c k where
  lam : ∀ j fn, l j = some fn → ∃ k', k' + 1 = k ∧ LamOk P w K mg base g k' j fn
/-! ### derivations -/
section
variable {P : Program} {w : World} {K : PySem.W.Frag} {mg : Str → Option Value} {base : Heap} {g : G} {c : Oracle} {l : LamV} {k : Nat} {C_TermError : Addr} {cd tb : Nat → Addr}
theorem nd0 : (["text", "sign", "found", "word"] : List Str).Nodup := by decide +kernel
theorem d0 (hd : Hd K mg base g C_TermError cd tb) (Fs : Fs P w K mg base g c l k) {f : Addr} {A : Around} {outer : List Env} {s : Shared} {H : Hp} {E : XK} (hr : Room k (A.deeper (envOfC "words_of" (defScope (top 6)) s.heap.objs.size f (.ref (cd 0))))) :
    SSs (cxOf (L2.CX P w) P w K mg base ["text", "sign", "found", "word"] "words_of" (defScope (top 6)) f (.ref (cd 0)) A outer s H E) g (fun cls d _ H => E cls d H) (defBody (top 6)) (b0 c l) :=
    (ss_cons (ss_par rfl nd0 rfl rfl (by decide) rfl rfl (sa_cons (se_lst sa_nil) (sa_cons (se_str []) sa_nil)) rfl)
      (ss_cons (ss_for (passes_of rfl) rfl (si_any hd.gK (se_bin (opAdd hd.gK) (se_var (i := 0) rfl (by walk_at "vv")) (se_str [32]))) (sg_name (i := 1) nd0 rfl (by walk_at "lo")) (ss_cons (ss_if (st_cmp (opIn hd.gK) (se_var (i := 1) rfl (by walk_at "vv")) (se_globS (by walk_at "gl") hd.c_SIGNS_OF_NAMES)) (ss_cons (ss_aug nd0 rfl (by walk_at "lo") (se_var (i := 1) rfl (by walk_at "vv")) opIadd)
      ss_nil) (ss_cons (ss_aug nd0 rfl (by walk_at "lo") (se_if (st_cmp (opNe hd.gK hr.units) (se_var (i := 3) rfl (by walk_at "vv")) (se_str [])) (se_lst (sa_cons (se_var (i := 3) rfl (by walk_at "vv")) sa_nil)) (se_lst sa_nil)) opIadd)
      (ss_cons (ss_set nd0 rfl (by walk_at "lo") (se_str []))
      (ss_cons (ss_if (st_cmp (opIn hd.gK) (se_var (i := 1) rfl (by walk_at "vv")) (se_str [40, 41, 33, 46])) (ss_cons (ss_expr (se_append hd.gK (se_var (i := 2) rfl (by walk_at "vv")) (sa_cons (se_var (i := 1) rfl (by walk_at "vv")) sa_nil)))
      ss_nil) (ss_cons (ss_if (st_cmp (opNotIn hd.gK) (se_var (i := 1) rfl (by walk_at "vv")) (se_str [32, 10])) (ss_cons (ss_raise rfl (takes_of rfl rfl rfl rfl) PySem.F.excBase_ValueError hd.x_TermError.cv hd.x_TermError.q hd.x_TermError.gC hd.x_TermError.kC (raises_own hd.x_TermError.eC hd.x_TermError.tC) (by walk_at "gl"))
      ss_nil) ss_nil)
      ss_nil))
      ss_nil))))
      ss_nil))
      (ss_cons (ss_ret (se_callTy (callTup2 hd.gK rfl) (by walk_at "gl") hd.m_tuple (by rfl) (sa_cons (se_var (i := 2) rfl (by walk_at "vv")) sa_nil)))
      ss_nil)))
theorem nd1 : (["word"] : List Str).Nodup := by decide +kernel
theorem d1 (hd : Hd K mg base g C_TermError cd tb) (Fs : Fs P w K mg base g c l k) {f : Addr} {A : Around} {outer : List Env} {s : Shared} {H : Hp} {E : XK} (hr : Room k (A.deeper (envOfC "is_name" (defScope (top 7)) s.heap.objs.size f (.ref (cd 1))))) :
    SSs (cxOf (L2.CX P w) P w K mg base ["word"] "is_name" (defScope (top 7)) f (.ref (cd 1)) A outer s H E) g (fun cls d _ H => E cls d H) (defBody (top 7)) (b1 c l) :=
    (ss_cons (ss_ret (se_and hd.gK (se_cmp (opNe hd.gK hr.units) (se_var (i := 0) rfl (by walk_at "vv")) (se_str [])) (se_and hd.gK (se_cmp (opNotIn hd.gK) (se_ix hd.gK (se_var (i := 0) rfl (by walk_at "vv")) se_int) (se_str [48, 49, 50, 51, 52, 53, 54, 55, 56, 57])) (se_one (se_allS hd.gK hr (by walk_at "gl") hd.m_all (by rfl) hd.tb1 hd.hT1 hd.hu1 rfl (by walk_at "genS") (se_var (i := 0) rfl (by walk_at "vv")) (fun items h1 => elq_inG [97, 98, 99, 100, 101, 102, 103, 104, 105, 106, 107, 108, 109, 110, 111, 112, 113, 114, 115, 116, 117, 118, 119, 120, 121, 122, 65, 66, 67, 68, 69, 70, 71, 72, 73, 74, 75, 76, 77, 78, 79, 80, 81, 82, 83, 84, 85, 86, 87, 88, 89, 90, 48, 49, 50, 51, 52, 53, 54, 55, 56, 57, 95] rfl rfl rfl hd.c_SIGNS_OF_NAMES h1) (fun _ => rfl))))))
      ss_nil)
theorem nd2 : (["word"] : List Str).Nodup := by decide +kernel
theorem d2 (hd : Hd K mg base g C_TermError cd tb) (Fs : Fs P w K mg base g c l k) {f : Addr} {A : Around} {outer : List Env} {s : Shared} {H : Hp} {E : XK} (hr : Room k (A.deeper (envOfC "is_number" (defScope (top 8)) s.heap.objs.size f (.ref (cd 2))))) :
    SSs (cxOf (L2.CX P w) P w K mg base ["word"] "is_number" (defScope (top 8)) f (.ref (cd 2)) A outer s H E) g (fun cls d _ H => E cls d H) (defBody (top 8)) (b2 c l) :=
    (ss_cons (ss_ret (se_and hd.gK (se_chn (opLe) (opLe) se_int (se_callB (callLen hd.gK) (by walk_at "gl") hd.m_len (by rfl) (sa_cons (se_var (i := 0) rfl (by walk_at "vv")) sa_nil)) se_int) (se_and hd.gK (se_allS hd.gK hr (by walk_at "gl") hd.m_all (by rfl) hd.tb2 hd.hT2 hd.hu2 rfl (by walk_at "genS") (se_var (i := 0) rfl (by walk_at "vv")) (fun items h1 => elq_inC [48, 49, 50, 51, 52, 53, 54, 55, 56, 57] rfl rfl h1) (fun _ => rfl)) (se_one (se_or hd.gK (se_cmp (opNe hd.gK hr.units) (se_ix hd.gK (se_var (i := 0) rfl (by walk_at "vv")) se_int) (se_str [48])) (se_one (se_cmp (opEq hd.gK hr.units) (se_var (i := 0) rfl (by walk_at "vv")) (se_str [48]))))))))
      ss_nil)
theorem nd3 : (["text", "words", "term", "place"] : List Str).Nodup := by decide +kernel
theorem d3 (hd : Hd K mg base g C_TermError cd tb) (Fs : Fs P w K mg base g c l k) {f : Addr} {A : Around} {outer : List Env} {s : Shared} {H : Hp} {E : XK} (hr : Room k (A.deeper (envOfC "read_term" (defScope (top 9)) s.heap.objs.size f (.ref (cd 3))))) :
    SSs (cxOf (L2.CX P w) P w K mg base ["text", "words", "term", "place"] "read_term" (defScope (top 9)) f (.ref (cd 3)) A outer s H E) g (fun cls d _ H => E cls d H) (defBody (top 9)) (b3 c l) :=
    (ss_cons (ss_set nd3 rfl (by walk_at "lo") (se_call Fs.f0 hd.gK hr (takes_of rfl rfl rfl rfl) (by walk_at "gl") (sa_cons (se_var (i := 0) rfl (by walk_at "vv")) sa_nil)))
      (ss_cons (ss_asg (se_call Fs.f4 hd.gK hr (takes_of rfl rfl rfl rfl) (by walk_at "gl") (sa_cons (se_var (i := 1) rfl (by walk_at "vv")) (sa_cons se_int (sa_cons se_int sa_nil)))) (sg_tup hd.gK rfl (sg_cons (sg_name (i := 2) nd3 rfl (by walk_at "lo")) (sg_cons (sg_name (i := 3) nd3 rfl (by walk_at "lo")) sg_nil))))
      (ss_cons (ss_if (st_cmp (opNe hd.gK hr.units) (se_var (i := 3) rfl (by walk_at "vv")) (se_callB (callLen hd.gK) (by walk_at "gl") hd.m_len (by rfl) (sa_cons (se_var (i := 1) rfl (by walk_at "vv")) sa_nil))) (ss_cons (ss_raise rfl (takes_of rfl rfl rfl rfl) PySem.F.excBase_ValueError hd.x_TermError.cv hd.x_TermError.q hd.x_TermError.gC hd.x_TermError.kC (raises_own hd.x_TermError.eC hd.x_TermError.tC) (by walk_at "gl"))
      ss_nil) ss_nil)
      (ss_cons (ss_ret (se_var (i := 2) rfl (by walk_at "vv")))
      ss_nil))))
theorem nd4 : (["words", "place", "deep", "term", "more"] : List Str).Nodup := by decide +kernel
theorem d4 (hd : Hd K mg base g C_TermError cd tb) (Fs : Fs P w K mg base g c l k) {f : Addr} {A : Around} {outer : List Env} {s : Shared} {H : Hp} {E : XK} (hr : Room k (A.deeper (envOfC "read_row" (defScope (top 10)) s.heap.objs.size f (.ref (cd 4))))) :
    SSs (cxOf (L2.CX P w) P w K mg base ["words", "place", "deep", "term", "more"] "read_row" (defScope (top 10)) f (.ref (cd 4)) A outer s H E) g (fun cls d _ H => E cls d H) (defBody (top 10)) (b4 c l) :=
    (ss_cons (ss_if (st_cmp (opGt) (se_var (i := 2) rfl (by walk_at "vv")) (se_globI (by walk_at "gl") hd.c_MOST_DEEP)) (ss_cons (ss_raise rfl (takes_of rfl rfl rfl rfl) PySem.F.excBase_ValueError hd.x_TermError.cv hd.x_TermError.q hd.x_TermError.gC hd.x_TermError.kC (raises_own hd.x_TermError.eC hd.x_TermError.tC) (by walk_at "gl"))
      ss_nil) ss_nil)
      (ss_cons (ss_asg (se_call Fs.f5 hd.gK hr (takes_of rfl rfl rfl rfl) (by walk_at "gl") (sa_cons (se_var (i := 0) rfl (by walk_at "vv")) (sa_cons (se_var (i := 1) rfl (by walk_at "vv")) (sa_cons (se_var (i := 2) rfl (by walk_at "vv")) sa_nil)))) (sg_tup hd.gK rfl (sg_cons (sg_name (i := 3) nd4 rfl (by walk_at "lo")) (sg_cons (sg_name (i := 1) nd4 rfl (by walk_at "lo")) sg_nil))))
      (ss_cons (ss_while 100000 (passes_of rfl) (st_w (sw_and (st_cmp (opLt) (se_var (i := 1) rfl (by walk_at "vv")) (se_callB (callLen hd.gK) (by walk_at "gl") hd.m_len (by rfl) (sa_cons (se_var (i := 0) rfl (by walk_at "vv")) sa_nil))) (sw_and1 (st_cmp (opNotIn hd.gK) (se_ix hd.gK (se_var (i := 0) rfl (by walk_at "vv")) (se_var (i := 1) rfl (by walk_at "vv"))) (se_tup (sa_cons (se_str [41]) (sa_cons (se_str [46]) sa_nil))))))) (ss_cons (ss_asg (se_call Fs.f5 hd.gK hr (takes_of rfl rfl rfl rfl) (by walk_at "gl") (sa_cons (se_var (i := 0) rfl (by walk_at "vv")) (sa_cons (se_var (i := 1) rfl (by walk_at "vv")) (sa_cons (se_var (i := 2) rfl (by walk_at "vv")) sa_nil)))) (sg_tup hd.gK rfl (sg_cons (sg_name (i := 4) nd4 rfl (by walk_at "lo")) (sg_cons (sg_name (i := 1) nd4 rfl (by walk_at "lo")) sg_nil))))
      (ss_cons (ss_set nd4 rfl (by walk_at "lo") (se_tup (sa_cons (se_str [97, 116]) (sa_cons (se_var (i := 3) rfl (by walk_at "vv")) (sa_cons (se_var (i := 4) rfl (by walk_at "vv")) sa_nil)))))
      ss_nil)))
      (ss_cons (ss_ret (se_tup (sa_cons (se_var (i := 3) rfl (by walk_at "vv")) (sa_cons (se_var (i := 1) rfl (by walk_at "vv")) sa_nil))))
      ss_nil))))
theorem nd5 : (["words", "place", "deep", "word", "name", "term", "behind", "names", "here"] : List Str).Nodup := by decide +kernel
theorem d5 (hd : Hd K mg base g C_TermError cd tb) (Fs : Fs P w K mg base g c l k) {f : Addr} {A : Around} {outer : List Env} {s : Shared} {H : Hp} {E : XK} (hr : Room k (A.deeper (envOfC "read_part" (defScope (top 11)) s.heap.objs.size f (.ref (cd 5))))) :
    SSs (cxOf (L2.CX P w) P w K mg base ["words", "place", "deep", "word", "name", "term", "behind", "names", "here"] "read_part" (defScope (top 11)) f (.ref (cd 5)) A outer s H E) g (fun cls d _ H => E cls d H) (defBody (top 11)) (b5 c l) :=
    (ss_cons (ss_if (st_cmp (opGe) (se_var (i := 1) rfl (by walk_at "vv")) (se_callB (callLen hd.gK) (by walk_at "gl") hd.m_len (by rfl) (sa_cons (se_var (i := 0) rfl (by walk_at "vv")) sa_nil))) (ss_cons (ss_raise rfl (takes_of rfl rfl rfl rfl) PySem.F.excBase_ValueError hd.x_TermError.cv hd.x_TermError.q hd.x_TermError.gC hd.x_TermError.kC (raises_own hd.x_TermError.eC hd.x_TermError.tC) (by walk_at "gl"))
      ss_nil) ss_nil)
      (ss_cons (ss_set nd5 rfl (by walk_at "lo") (se_ix hd.gK (se_var (i := 0) rfl (by walk_at "vv")) (se_var (i := 1) rfl (by walk_at "vv"))))
      (ss_cons (ss_if (st_cmp (opEq hd.gK hr.units) (se_var (i := 3) rfl (by walk_at "vv")) (se_str [40])) (ss_cons (ss_asg (se_call Fs.f4 hd.gK hr (takes_of rfl rfl rfl rfl) (by walk_at "gl") (sa_cons (se_var (i := 0) rfl (by walk_at "vv")) (sa_cons (se_bin (opAdd hd.gK) (se_var (i := 1) rfl (by walk_at "vv")) se_int) (sa_cons (se_bin (opAdd hd.gK) (se_var (i := 2) rfl (by walk_at "vv")) se_int) sa_nil)))) (sg_tup hd.gK rfl (sg_cons (sg_name (i := 5) nd5 rfl (by walk_at "lo")) (sg_cons (sg_name (i := 6) nd5 rfl (by walk_at "lo")) sg_nil))))
      (ss_cons (ss_if (st_w (sw_or (st_cmp (opGe) (se_var (i := 6) rfl (by walk_at "vv")) (se_callB (callLen hd.gK) (by walk_at "gl") hd.m_len (by rfl) (sa_cons (se_var (i := 0) rfl (by walk_at "vv")) sa_nil))) (sw_or1 (st_cmp (opNe hd.gK hr.units) (se_ix hd.gK (se_var (i := 0) rfl (by walk_at "vv")) (se_var (i := 6) rfl (by walk_at "vv"))) (se_str [41]))))) (ss_cons (ss_raise rfl (takes_of rfl rfl rfl rfl) PySem.F.excBase_ValueError hd.x_TermError.cv hd.x_TermError.q hd.x_TermError.gC hd.x_TermError.kC (raises_own hd.x_TermError.eC hd.x_TermError.tC) (by walk_at "gl"))
      ss_nil) ss_nil)
      (ss_cons (ss_ret (se_tup (sa_cons (se_var (i := 5) rfl (by walk_at "vv")) (sa_cons (se_bin (opAdd hd.gK) (se_var (i := 6) rfl (by walk_at "vv")) se_int) sa_nil))))
      ss_nil))) ss_nil)
      (ss_cons (ss_if (st_cmp (opEq hd.gK hr.units) (se_var (i := 3) rfl (by walk_at "vv")) (se_str [33])) (ss_cons (ss_par rfl nd5 rfl rfl (by decide) rfl rfl (sa_cons (se_lst sa_nil) (sa_cons (se_bin (opAdd hd.gK) (se_var (i := 1) rfl (by walk_at "vv")) se_int) sa_nil)) rfl)
      (ss_cons (ss_while 100000 (passes_of rfl) (st_w (sw_and (st_cmp (opLt) (se_var (i := 8) rfl (by walk_at "vv")) (se_callB (callLen hd.gK) (by walk_at "gl") hd.m_len (by rfl) (sa_cons (se_var (i := 0) rfl (by walk_at "vv")) sa_nil))) (sw_and1 (st_tru hd.gK (se_call Fs.f1 hd.gK hr (takes_of rfl rfl rfl rfl) (by walk_at "gl") (sa_cons (se_ix hd.gK (se_var (i := 0) rfl (by walk_at "vv")) (se_var (i := 8) rfl (by walk_at "vv"))) sa_nil)))))) (ss_cons (ss_expr (se_append hd.gK (se_var (i := 7) rfl (by walk_at "vv")) (sa_cons (se_ix hd.gK (se_var (i := 0) rfl (by walk_at "vv")) (se_var (i := 8) rfl (by walk_at "vv"))) sa_nil)))
      (ss_cons (ss_aug nd5 rfl (by walk_at "lo") se_int opIadd)
      ss_nil)))
      (ss_cons (ss_if (st_w (sw_or (st_cmp (opEq hd.gK hr.units) (se_var (i := 7) rfl (by walk_at "vv")) (se_lst sa_nil)) (sw_or (st_cmp (opGe) (se_var (i := 8) rfl (by walk_at "vv")) (se_callB (callLen hd.gK) (by walk_at "gl") hd.m_len (by rfl) (sa_cons (se_var (i := 0) rfl (by walk_at "vv")) sa_nil))) (sw_or1 (st_cmp (opNe hd.gK hr.units) (se_ix hd.gK (se_var (i := 0) rfl (by walk_at "vv")) (se_var (i := 8) rfl (by walk_at "vv"))) (se_str [46])))))) (ss_cons (ss_raise rfl (takes_of rfl rfl rfl rfl) PySem.F.excBase_ValueError hd.x_TermError.cv hd.x_TermError.q hd.x_TermError.gC hd.x_TermError.kC (raises_own hd.x_TermError.eC hd.x_TermError.tC) (by walk_at "gl"))
      ss_nil) ss_nil)
      (ss_cons (ss_asg (se_call Fs.f4 hd.gK hr (takes_of rfl rfl rfl rfl) (by walk_at "gl") (sa_cons (se_var (i := 0) rfl (by walk_at "vv")) (sa_cons (se_bin (opAdd hd.gK) (se_var (i := 8) rfl (by walk_at "vv")) se_int) (sa_cons (se_bin (opAdd hd.gK) (se_var (i := 2) rfl (by walk_at "vv")) se_int) sa_nil)))) (sg_tup hd.gK rfl (sg_cons (sg_name (i := 5) nd5 rfl (by walk_at "lo")) (sg_cons (sg_name (i := 6) nd5 rfl (by walk_at "lo")) sg_nil))))
      (ss_cons (ss_for (passes_of rfl) rfl (si_any hd.gK (se_rev hd.gK (se_var (i := 7) rfl (by walk_at "vv")))) (sg_name (i := 4) nd5 rfl (by walk_at "lo")) (ss_cons (ss_set nd5 rfl (by walk_at "lo") (se_tup (sa_cons (se_str [102, 117, 110]) (sa_cons (se_var (i := 4) rfl (by walk_at "vv")) (sa_cons (se_var (i := 5) rfl (by walk_at "vv")) sa_nil)))))
      ss_nil))
      (ss_cons (ss_ret (se_tup (sa_cons (se_var (i := 5) rfl (by walk_at "vv")) (sa_cons (se_var (i := 6) rfl (by walk_at "vv")) sa_nil))))
      ss_nil)))))) ss_nil)
      (ss_cons (ss_if (st_tru hd.gK (se_call Fs.f2 hd.gK hr (takes_of rfl rfl rfl rfl) (by walk_at "gl") (sa_cons (se_var (i := 3) rfl (by walk_at "vv")) sa_nil))) (ss_cons (ss_ret (se_tup (sa_cons (se_callTy (callInt) (by walk_at "gl") hd.m_int (by rfl) (sa_cons (se_var (i := 3) rfl (by walk_at "vv")) sa_nil)) (sa_cons (se_bin (opAdd hd.gK) (se_var (i := 1) rfl (by walk_at "vv")) se_int) sa_nil))))
      ss_nil) ss_nil)
      (ss_cons (ss_if (st_not (st_tru hd.gK (se_call Fs.f1 hd.gK hr (takes_of rfl rfl rfl rfl) (by walk_at "gl") (sa_cons (se_var (i := 3) rfl (by walk_at "vv")) sa_nil)))) (ss_cons (ss_raise rfl (takes_of rfl rfl rfl rfl) PySem.F.excBase_ValueError hd.x_TermError.cv hd.x_TermError.q hd.x_TermError.gC hd.x_TermError.kC (raises_own hd.x_TermError.eC hd.x_TermError.tC) (by walk_at "gl"))
      ss_nil) ss_nil)
      (ss_cons (ss_ret (se_tup (sa_cons (se_var (i := 3) rfl (by walk_at "vv")) (sa_cons (se_bin (opAdd hd.gK) (se_var (i := 1) rfl (by walk_at "vv")) se_int) sa_nil))))
      ss_nil)))))))
theorem nd6 : (["term", "deep"] : List Str).Nodup := by decide +kernel
theorem d6 (hd : Hd K mg base g C_TermError cd tb) (Fs : Fs P w K mg base g c l k) {f : Addr} {A : Around} {outer : List Env} {s : Shared} {H : Hp} {E : XK} (hr : Room k (A.deeper (envOfC "check_term" (defScope (top 12)) s.heap.objs.size f (.ref (cd 6))))) :
    SSs (cxOf (L2.CX P w) P w K mg base ["term", "deep"] "check_term" (defScope (top 12)) f (.ref (cd 6)) A outer s H E) g (fun cls d _ H => E cls d H) (defBody (top 12)) (b6 c l) :=
    (ss_cons (ss_if (st_cmp (opGt) (se_var (i := 1) rfl (by walk_at "vv")) (se_globI (by walk_at "gl") hd.c_MOST_DEEP)) (ss_cons (ss_raise rfl (takes_of rfl rfl rfl rfl) PySem.F.excBase_ValueError hd.x_TermError.cv hd.x_TermError.q hd.x_TermError.gC hd.x_TermError.kC (raises_own hd.x_TermError.eC hd.x_TermError.tC) (by walk_at "gl"))
      ss_nil) ss_nil)
      (ss_cons (ss_if (st_tru hd.gK (se_is1 "str" hd.gK (by decide) (by walk_at "gl") hd.m_isinstance (by walk_at "gl") hd.m_str (by rfl) (by decide) (se_var (i := 0) rfl (by walk_at "vv")))) (ss_cons (ss_if (st_not (st_tru hd.gK (se_call Fs.f1 hd.gK hr (takes_of rfl rfl rfl rfl) (by walk_at "gl") (sa_cons (se_var (i := 0) rfl (by walk_at "vv")) sa_nil)))) (ss_cons (ss_raise rfl (takes_of rfl rfl rfl rfl) PySem.F.excBase_ValueError hd.x_TermError.cv hd.x_TermError.q hd.x_TermError.gC hd.x_TermError.kC (raises_own hd.x_TermError.eC hd.x_TermError.tC) (by walk_at "gl"))
      ss_nil) ss_nil)
      ss_nil) (ss_cons (ss_if (st_tru hd.gK (se_is1 "int" hd.gK (by decide) (by walk_at "gl") hd.m_isinstance (by walk_at "gl") hd.m_int (by rfl) (by decide) (se_var (i := 0) rfl (by walk_at "vv")))) (ss_cons (ss_if (st_cmp (opLt) (se_var (i := 0) rfl (by walk_at "vv")) se_int) (ss_cons (ss_raise rfl (takes_of rfl rfl rfl rfl) PySem.F.excBase_ValueError hd.x_TermError.cv hd.x_TermError.q hd.x_TermError.gC hd.x_TermError.kC (raises_own hd.x_TermError.eC hd.x_TermError.tC) (by walk_at "gl"))
      ss_nil) ss_nil)
      ss_nil) (ss_cons (ss_if (st_w (sw_and (st_cmp (opEq hd.gK hr.units) (se_callB (callLen hd.gK) (by walk_at "gl") hd.m_len (by rfl) (sa_cons (se_var (i := 0) rfl (by walk_at "vv")) sa_nil)) se_int) (sw_and1 (st_cmp (opEq hd.gK hr.units) (se_ix hd.gK (se_var (i := 0) rfl (by walk_at "vv")) se_int) (se_str [102, 117, 110]))))) (ss_cons (ss_if (st_not (st_tru hd.gK (se_call Fs.f1 hd.gK hr (takes_of rfl rfl rfl rfl) (by walk_at "gl") (sa_cons (se_ix hd.gK (se_var (i := 0) rfl (by walk_at "vv")) se_int) sa_nil)))) (ss_cons (ss_raise rfl (takes_of rfl rfl rfl rfl) PySem.F.excBase_ValueError hd.x_TermError.cv hd.x_TermError.q hd.x_TermError.gC hd.x_TermError.kC (raises_own hd.x_TermError.eC hd.x_TermError.tC) (by walk_at "gl"))
      ss_nil) ss_nil)
      (ss_cons (ss_expr (se_call Fs.f6 hd.gK hr (takes_of rfl rfl rfl rfl) (by walk_at "gl") (sa_cons (se_ix hd.gK (se_var (i := 0) rfl (by walk_at "vv")) se_int) (sa_cons (se_bin (opAdd hd.gK) (se_var (i := 1) rfl (by walk_at "vv")) se_int) sa_nil))))
      ss_nil)) (ss_cons (ss_if (st_w (sw_and (st_cmp (opEq hd.gK hr.units) (se_callB (callLen hd.gK) (by walk_at "gl") hd.m_len (by rfl) (sa_cons (se_var (i := 0) rfl (by walk_at "vv")) sa_nil)) se_int) (sw_and1 (st_cmp (opEq hd.gK hr.units) (se_ix hd.gK (se_var (i := 0) rfl (by walk_at "vv")) se_int) (se_str [97, 116]))))) (ss_cons (ss_expr (se_call Fs.f6 hd.gK hr (takes_of rfl rfl rfl rfl) (by walk_at "gl") (sa_cons (se_ix hd.gK (se_var (i := 0) rfl (by walk_at "vv")) se_int) (sa_cons (se_bin (opAdd hd.gK) (se_var (i := 1) rfl (by walk_at "vv")) se_int) sa_nil))))
      (ss_cons (ss_expr (se_call Fs.f6 hd.gK hr (takes_of rfl rfl rfl rfl) (by walk_at "gl") (sa_cons (se_ix hd.gK (se_var (i := 0) rfl (by walk_at "vv")) se_int) (sa_cons (se_bin (opAdd hd.gK) (se_var (i := 1) rfl (by walk_at "vv")) se_int) sa_nil))))
      ss_nil)) (ss_cons (ss_raise rfl (takes_of rfl rfl rfl rfl) PySem.F.excBase_ValueError hd.x_TermError.cv hd.x_TermError.q hd.x_TermError.gC hd.x_TermError.kC (raises_own hd.x_TermError.eC hd.x_TermError.tC) (by walk_at "gl"))
      ss_nil))
      ss_nil))
      ss_nil))
      ss_nil))
      ss_nil))
theorem nd7 : (["term"] : List Str).Nodup := by decide +kernel
theorem d7 (hd : Hd K mg base g C_TermError cd tb) (Fs : Fs P w K mg base g c l k) {f : Addr} {A : Around} {outer : List Env} {s : Shared} {H : Hp} {E : XK} (hr : Room k (A.deeper (envOfC "told_term" (defScope (top 13)) s.heap.objs.size f (.ref (cd 7))))) :
    SSs (cxOf (L2.CX P w) P w K mg base ["term"] "told_term" (defScope (top 13)) f (.ref (cd 7)) A outer s H E) g (fun cls d _ H => E cls d H) (defBody (top 13)) (b7 c l) :=
    (ss_cons (ss_ret (se_call Fs.f8 hd.gK hr (takes_of rfl rfl rfl rfl) (by walk_at "gl") (sa_cons (se_var (i := 0) rfl (by walk_at "vv")) (sa_cons (se_str [97, 108, 108]) sa_nil))))
      ss_nil)
theorem nd8 : (["term", "where", "found", "names", "body"] : List Str).Nodup := by decide +kernel
theorem d8 (hd : Hd K mg base g C_TermError cd tb) (Fs : Fs P w K mg base g c l k) {f : Addr} {A : Around} {outer : List Env} {s : Shared} {H : Hp} {E : XK} (hr : Room k (A.deeper (envOfC "told_in" (defScope (top 14)) s.heap.objs.size f (.ref (cd 8))))) :
    SSs (cxOf (L2.CX P w) P w K mg base ["term", "where", "found", "names", "body"] "told_in" (defScope (top 14)) f (.ref (cd 8)) A outer s H E) g (fun cls d _ H => E cls d H) (defBody (top 14)) (b8 c l) :=
    (ss_cons (ss_if (st_tru hd.gK (se_is1 "str" hd.gK (by decide) (by walk_at "gl") hd.m_isinstance (by walk_at "gl") hd.m_str (by rfl) (by decide) (se_var (i := 0) rfl (by walk_at "vv")))) (ss_cons (ss_ret (se_var (i := 0) rfl (by walk_at "vv")))
      ss_nil) ss_nil)
      (ss_cons (ss_if (st_tru hd.gK (se_is1 "int" hd.gK (by decide) (by walk_at "gl") hd.m_isinstance (by walk_at "gl") hd.m_int (by rfl) (by decide) (se_var (i := 0) rfl (by walk_at "vv")))) (ss_cons (ss_ret (se_joined1 (se_fmt (se_var (i := 0) rfl (by walk_at "vv")))))
      ss_nil) ss_nil)
      (ss_cons (ss_if (st_cmp (opEq hd.gK hr.units) (se_ix hd.gK (se_var (i := 0) rfl (by walk_at "vv")) se_int) (se_str [102, 117, 110])) (ss_cons (ss_set nd8 rfl (by walk_at "lo") (se_lst (sa_cons (se_ix hd.gK (se_var (i := 0) rfl (by walk_at "vv")) se_int) sa_nil)))
      (ss_cons (ss_set nd8 rfl (by walk_at "lo") (se_ix hd.gK (se_var (i := 0) rfl (by walk_at "vv")) se_int))
      (ss_cons (ss_while 100000 (passes_of rfl) (st_w (sw_and (st_tru hd.gK (se_is1 "tuple" hd.gK (by decide) (by walk_at "gl") hd.m_isinstance (by walk_at "gl") hd.m_tuple (by rfl) (by decide) (se_var (i := 4) rfl (by walk_at "vv")))) (sw_and1 (st_cmp (opEq hd.gK hr.units) (se_ix hd.gK (se_var (i := 4) rfl (by walk_at "vv")) se_int) (se_str [102, 117, 110]))))) (ss_cons (ss_expr (se_append hd.gK (se_var (i := 3) rfl (by walk_at "vv")) (sa_cons (se_ix hd.gK (se_var (i := 4) rfl (by walk_at "vv")) se_int) sa_nil)))
      (ss_cons (ss_set nd8 rfl (by walk_at "lo") (se_ix hd.gK (se_var (i := 4) rfl (by walk_at "vv")) se_int))
      ss_nil)))
      (ss_cons (ss_set nd8 rfl (by walk_at "lo") (se_bin (opAdd hd.gK) (se_bin (opAdd hd.gK) (se_bin (opAdd hd.gK) (se_str [33]) (se_join hd.gK (se_str [32]) (se_var (i := 3) rfl (by walk_at "vv")))) (se_str [46, 32])) (se_call Fs.f8 hd.gK hr (takes_of rfl rfl rfl rfl) (by walk_at "gl") (sa_cons (se_var (i := 4) rfl (by walk_at "vv")) (sa_cons (se_str [97, 108, 108]) sa_nil)))))
      (ss_cons (ss_ret (se_if (st_cmp (opEq hd.gK hr.units) (se_var (i := 1) rfl (by walk_at "vv")) (se_str [97, 108, 108])) (se_var (i := 2) rfl (by walk_at "vv")) (se_bin (opAdd hd.gK) (se_bin (opAdd hd.gK) (se_str [40]) (se_var (i := 2) rfl (by walk_at "vv"))) (se_str [41]))))
      ss_nil))))) ss_nil)
      (ss_cons (ss_set nd8 rfl (by walk_at "lo") (se_bin (opAdd hd.gK) (se_bin (opAdd hd.gK) (se_call Fs.f8 hd.gK hr (takes_of rfl rfl rfl rfl) (by walk_at "gl") (sa_cons (se_ix hd.gK (se_var (i := 0) rfl (by walk_at "vv")) se_int) (sa_cons (se_str [102, 105, 114, 115, 116]) sa_nil))) (se_str [32])) (se_call Fs.f8 hd.gK hr (takes_of rfl rfl rfl rfl) (by walk_at "gl") (sa_cons (se_ix hd.gK (se_var (i := 0) rfl (by walk_at "vv")) se_int) (sa_cons (se_str [108, 97, 115, 116]) sa_nil)))))
      (ss_cons (ss_ret (se_if (st_cmp (opEq hd.gK hr.units) (se_var (i := 1) rfl (by walk_at "vv")) (se_str [108, 97, 115, 116])) (se_bin (opAdd hd.gK) (se_bin (opAdd hd.gK) (se_str [40]) (se_var (i := 2) rfl (by walk_at "vv"))) (se_str [41])) (se_var (i := 2) rfl (by walk_at "vv"))))
      ss_nil)))))
theorem nd9 : (["term", "found", "name"] : List Str).Nodup := by decide +kernel
theorem d9 (hd : Hd K mg base g C_TermError cd tb) (Fs : Fs P w K mg base g c l k) {f : Addr} {A : Around} {outer : List Env} {s : Shared} {H : Hp} {E : XK} (hr : Room k (A.deeper (envOfC "free_names" (defScope (top 15)) s.heap.objs.size f (.ref (cd 9))))) :
    SSs (cxOf (L2.CX P w) P w K mg base ["term", "found", "name"] "free_names" (defScope (top 15)) f (.ref (cd 9)) A outer s H E) g (fun cls d _ H => E cls d H) (defBody (top 15)) (b9 c l) :=
    (ss_cons (ss_set nd9 rfl (by walk_at "lo") se_dnew)
      (ss_cons (ss_if (st_tru hd.gK (se_is1 "str" hd.gK (by decide) (by walk_at "gl") hd.m_isinstance (by walk_at "gl") hd.m_str (by rfl) (by decide) (se_var (i := 0) rfl (by walk_at "vv")))) (ss_cons (ss_asg se_bl (sg_sub (W := WF) (hu_of hr) (se_var (i := 1) rfl (by walk_at "vv")) (se_var (i := 0) rfl (by walk_at "vv"))))
      ss_nil) (ss_cons (ss_if (st_w (sw_and (st_tru hd.gK (se_is1 "tuple" hd.gK (by decide) (by walk_at "gl") hd.m_isinstance (by walk_at "gl") hd.m_tuple (by rfl) (by decide) (se_var (i := 0) rfl (by walk_at "vv")))) (sw_and1 (st_cmp (opEq hd.gK hr.units) (se_ix hd.gK (se_var (i := 0) rfl (by walk_at "vv")) se_int) (se_str [102, 117, 110]))))) (ss_cons (ss_setDc rfl nd9 rfl rfl rfl (si_any hd.gK (se_call Fs.f9 hd.gK hr (takes_of rfl rfl rfl rfl) (by walk_at "gl") (sa_cons (se_ix hd.gK (se_var (i := 0) rfl (by walk_at "vv")) se_int) sa_nil))) (blkOk_by (own := [("name", 2)]) (by walk_at "blk")) (fun _ _ _ _ _ => (sgc_name (i := 2) nd9 rfl (by decide) (by walk_at "lo"))) (fun _ _ _ _ _ => (sts_one (st_cmp (opNe hd.gK hr.units) (se_var (i := 2) rfl (by walk_at "vv")) (se_ix hd.gK (se_var (i := 0) rfl (by walk_at "vv")) se_int)))) (fun _ _ _ _ _ => (se_var (i := 2) rfl (by walk_at "vv"))) (fun _ _ _ _ _ => se_bl))
      ss_nil) (ss_cons (ss_if (st_tru hd.gK (se_is1 "tuple" hd.gK (by decide) (by walk_at "gl") hd.m_isinstance (by walk_at "gl") hd.m_tuple (by rfl) (by decide) (se_var (i := 0) rfl (by walk_at "vv")))) (ss_cons (ss_setDc rfl nd9 rfl rfl rfl (si_any hd.gK (se_bin (opAdd hd.gK) (se_call Fs.f9 hd.gK hr (takes_of rfl rfl rfl rfl) (by walk_at "gl") (sa_cons (se_ix hd.gK (se_var (i := 0) rfl (by walk_at "vv")) se_int) sa_nil)) (se_call Fs.f9 hd.gK hr (takes_of rfl rfl rfl rfl) (by walk_at "gl") (sa_cons (se_ix hd.gK (se_var (i := 0) rfl (by walk_at "vv")) se_int) sa_nil)))) (blkOk_by (own := [("name", 2)]) (by walk_at "blk")) (fun _ _ _ _ _ => (sgc_name (i := 2) nd9 rfl (by decide) (by walk_at "lo"))) (fun _ _ _ _ _ => sts_nil) (fun _ _ _ _ _ => (se_var (i := 2) rfl (by walk_at "vv"))) (fun _ _ _ _ _ => se_bl))
      ss_nil) ss_nil)
      ss_nil))
      ss_nil))
      (ss_cons (ss_ret (se_callTy (callTup2 hd.gK rfl) (by walk_at "gl") hd.m_tuple (by rfl) (sa_cons (se_var (i := 1) rfl (by walk_at "vv")) sa_nil)))
      ss_nil)))
theorem nd10 : (["term", "first", "name"] : List Str).Nodup := by decide +kernel
theorem d10 (hd : Hd K mg base g C_TermError cd tb) (Fs : Fs P w K mg base g c l k) {f : Addr} {A : Around} {outer : List Env} {s : Shared} {H : Hp} {E : XK} (hr : Room k (A.deeper (envOfC "all_names" (defScope (top 16)) s.heap.objs.size f (.ref (cd 10))))) :
    SSs (cxOf (L2.CX P w) P w K mg base ["term", "first", "name"] "all_names" (defScope (top 16)) f (.ref (cd 10)) A outer s H E) g (fun cls d _ H => E cls d H) (defBody (top 16)) (b10 c l) :=
    (ss_cons (ss_if (st_tru hd.gK (se_is1 "str" hd.gK (by decide) (by walk_at "gl") hd.m_isinstance (by walk_at "gl") hd.m_str (by rfl) (by decide) (se_var (i := 0) rfl (by walk_at "vv")))) (ss_cons (ss_ret (se_tup (sa_cons (se_var (i := 0) rfl (by walk_at "vv")) sa_nil)))
      ss_nil) ss_nil)
      (ss_cons (ss_if (st_tru hd.gK (se_is1 "int" hd.gK (by decide) (by walk_at "gl") hd.m_isinstance (by walk_at "gl") hd.m_int (by rfl) (by decide) (se_var (i := 0) rfl (by walk_at "vv")))) (ss_cons (ss_ret (se_tup sa_nil))
      ss_nil) ss_nil)
      (ss_cons (ss_set nd10 rfl (by walk_at "lo") (se_if (st_cmp (opEq hd.gK hr.units) (se_ix hd.gK (se_var (i := 0) rfl (by walk_at "vv")) se_int) (se_str [102, 117, 110])) (se_tup (sa_cons (se_ix hd.gK (se_var (i := 0) rfl (by walk_at "vv")) se_int) sa_nil)) (se_call Fs.f10 hd.gK hr (takes_of rfl rfl rfl rfl) (by walk_at "gl") (sa_cons (se_ix hd.gK (se_var (i := 0) rfl (by walk_at "vv")) se_int) sa_nil))))
      (ss_cons (ss_ret (se_callTy (callTup2 hd.gK rfl) (by walk_at "gl") hd.m_tuple (by rfl) (sa_cons (se_dc rfl nd10 (si_any hd.gK (se_bin (opAdd hd.gK) (se_var (i := 1) rfl (by walk_at "vv")) (se_call Fs.f10 hd.gK hr (takes_of rfl rfl rfl rfl) (by walk_at "gl") (sa_cons (se_ix hd.gK (se_var (i := 0) rfl (by walk_at "vv")) se_int) sa_nil)))) (blkOk_by (own := [("name", 2)]) (by walk_at "blk")) (fun _ _ _ _ _ => (sgc_name (i := 2) nd10 rfl (by decide) (by walk_at "lo"))) (fun _ _ _ _ _ => sts_nil) (fun _ _ _ _ _ => (se_var (i := 2) rfl (by walk_at "vv"))) (fun _ _ _ _ _ => se_bl)) sa_nil)))
      ss_nil))))
theorem nd11 : (["term"] : List Str).Nodup := by decide +kernel
theorem d11 (hd : Hd K mg base g C_TermError cd tb) (Fs : Fs P w K mg base g c l k) {f : Addr} {A : Around} {outer : List Env} {s : Shared} {H : Hp} {E : XK} (hr : Room k (A.deeper (envOfC "size_of" (defScope (top 17)) s.heap.objs.size f (.ref (cd 11))))) :
    SSs (cxOf (L2.CX P w) P w K mg base ["term"] "size_of" (defScope (top 17)) f (.ref (cd 11)) A outer s H E) g (fun cls d _ H => E cls d H) (defBody (top 17)) (b11 c l) :=
    (ss_cons (ss_if (st_tru hd.gK (se_is2 "str" "int" hd.gK (by decide) (by decide) (by walk_at "gl") hd.m_isinstance (by walk_at "gl") hd.m_str (by rfl) (by decide) (by walk_at "gl") hd.m_int (by rfl) (by decide) (se_var (i := 0) rfl (by walk_at "vv")))) (ss_cons (ss_ret se_int)
      ss_nil) ss_nil)
      (ss_cons (ss_ret (se_bin (opAdd hd.gK) (se_bin (opAdd hd.gK) se_int (se_call Fs.f11 hd.gK hr (takes_of rfl rfl rfl rfl) (by walk_at "gl") (sa_cons (se_ix hd.gK (se_var (i := 0) rfl (by walk_at "vv")) se_int) sa_nil))) (se_if (st_cmp (opEq hd.gK hr.units) (se_ix hd.gK (se_var (i := 0) rfl (by walk_at "vv")) se_int) (se_str [97, 116])) (se_call Fs.f11 hd.gK hr (takes_of rfl rfl rfl rfl) (by walk_at "gl") (sa_cons (se_ix hd.gK (se_var (i := 0) rfl (by walk_at "vv")) se_int) sa_nil)) se_int)))
      ss_nil))
theorem nd12 : (["term"] : List Str).Nodup := by decide +kernel
theorem d12 (hd : Hd K mg base g C_TermError cd tb) (Fs : Fs P w K mg base g c l k) {f : Addr} {A : Around} {outer : List Env} {s : Shared} {H : Hp} {E : XK} (hr : Room k (A.deeper (envOfC "depth_of" (defScope (top 18)) s.heap.objs.size f (.ref (cd 12))))) :
    SSs (cxOf (L2.CX P w) P w K mg base ["term"] "depth_of" (defScope (top 18)) f (.ref (cd 12)) A outer s H E) g (fun cls d _ H => E cls d H) (defBody (top 18)) (b12 c l) :=
    (ss_cons (ss_if (st_tru hd.gK (se_is2 "str" "int" hd.gK (by decide) (by decide) (by walk_at "gl") hd.m_isinstance (by walk_at "gl") hd.m_str (by rfl) (by decide) (by walk_at "gl") hd.m_int (by rfl) (by decide) (se_var (i := 0) rfl (by walk_at "vv")))) (ss_cons (ss_ret se_int)
      ss_nil) ss_nil)
      (ss_cons (ss_ret (se_bin (opAdd hd.gK) se_int (se_callB (callMax rfl) (by walk_at "gl") hd.m_max (by rfl) (sa_cons (se_call Fs.f12 hd.gK hr (takes_of rfl rfl rfl rfl) (by walk_at "gl") (sa_cons (se_ix hd.gK (se_var (i := 0) rfl (by walk_at "vv")) se_int) sa_nil)) (sa_cons (se_if (st_cmp (opEq hd.gK hr.units) (se_ix hd.gK (se_var (i := 0) rfl (by walk_at "vv")) se_int) (se_str [97, 116])) (se_call Fs.f12 hd.gK hr (takes_of rfl rfl rfl rfl) (by walk_at "gl") (sa_cons (se_ix hd.gK (se_var (i := 0) rfl (by walk_at "vv")) se_int) sa_nil)) se_int) sa_nil)))))
      ss_nil))
theorem nd13 : (["term", "found"] : List Str).Nodup := by decide +kernel
theorem d13 (hd : Hd K mg base g C_TermError cd tb) (Fs : Fs P w K mg base g c l k) {f : Addr} {A : Around} {outer : List Env} {s : Shared} {H : Hp} {E : XK} (hr : Room k (A.deeper (envOfC "row_of" (defScope (top 19)) s.heap.objs.size f (.ref (cd 13))))) :
    SSs (cxOf (L2.CX P w) P w K mg base ["term", "found"] "row_of" (defScope (top 19)) f (.ref (cd 13)) A outer s H E) g (fun cls d _ H => E cls d H) (defBody (top 19)) (b13 c l) :=
    (ss_cons (ss_set nd13 rfl (by walk_at "lo") (se_lst sa_nil))
      (ss_cons (ss_while 100000 (passes_of rfl) (st_w (sw_and (st_tru hd.gK (se_is1 "tuple" hd.gK (by decide) (by walk_at "gl") hd.m_isinstance (by walk_at "gl") hd.m_tuple (by rfl) (by decide) (se_var (i := 0) rfl (by walk_at "vv")))) (sw_and1 (st_cmp (opEq hd.gK hr.units) (se_ix hd.gK (se_var (i := 0) rfl (by walk_at "vv")) se_int) (se_str [97, 116]))))) (ss_cons (ss_expr (se_append hd.gK (se_var (i := 1) rfl (by walk_at "vv")) (sa_cons (se_ix hd.gK (se_var (i := 0) rfl (by walk_at "vv")) se_int) sa_nil)))
      (ss_cons (ss_set nd13 rfl (by walk_at "lo") (se_ix hd.gK (se_var (i := 0) rfl (by walk_at "vv")) se_int))
      ss_nil)))
      (ss_cons (ss_ret (se_tup (sa_cons (se_var (i := 0) rfl (by walk_at "vv")) (sa_cons (se_callTy (callTup2 hd.gK rfl) (by walk_at "gl") hd.m_tuple (by rfl) (sa_cons (se_rev hd.gK (se_var (i := 1) rfl (by walk_at "vv"))) sa_nil)) sa_nil))))
      ss_nil)))
theorem nd14 : (["head", "terms", "term"] : List Str).Nodup := by decide +kernel
theorem d14 (hd : Hd K mg base g C_TermError cd tb) (Fs : Fs P w K mg base g c l k) {f : Addr} {A : Around} {outer : List Env} {s : Shared} {H : Hp} {E : XK} (hr : Room k (A.deeper (envOfC "put_at" (defScope (top 20)) s.heap.objs.size f (.ref (cd 14))))) :
    SSs (cxOf (L2.CX P w) P w K mg base ["head", "terms", "term"] "put_at" (defScope (top 20)) f (.ref (cd 14)) A outer s H E) g (fun cls d _ H => E cls d H) (defBody (top 20)) (b14 c l) :=
    (ss_cons (ss_for (passes_of rfl) rfl (si_any hd.gK (se_var (i := 1) rfl (by walk_at "vv"))) (sg_name (i := 2) nd14 rfl (by walk_at "lo")) (ss_cons (ss_set nd14 rfl (by walk_at "lo") (se_tup (sa_cons (se_str [97, 116]) (sa_cons (se_var (i := 0) rfl (by walk_at "vv")) (sa_cons (se_var (i := 2) rfl (by walk_at "vv")) sa_nil)))))
      ss_nil))
      (ss_cons (ss_ret (se_var (i := 0) rfl (by walk_at "vv")))
      ss_nil))
theorem nd15 : (["names", "body", "name"] : List Str).Nodup := by decide +kernel
theorem d15 (hd : Hd K mg base g C_TermError cd tb) (Fs : Fs P w K mg base g c l k) {f : Addr} {A : Around} {outer : List Env} {s : Shared} {H : Hp} {E : XK} (hr : Room k (A.deeper (envOfC "funs_over" (defScope (top 21)) s.heap.objs.size f (.ref (cd 15))))) :
    SSs (cxOf (L2.CX P w) P w K mg base ["names", "body", "name"] "funs_over" (defScope (top 21)) f (.ref (cd 15)) A outer s H E) g (fun cls d _ H => E cls d H) (defBody (top 21)) (b15 c l) :=
    (ss_cons (ss_for (passes_of rfl) rfl (si_any hd.gK (se_rev hd.gK (se_var (i := 0) rfl (by walk_at "vv")))) (sg_name (i := 2) nd15 rfl (by walk_at "lo")) (ss_cons (ss_set nd15 rfl (by walk_at "lo") (se_tup (sa_cons (se_str [102, 117, 110]) (sa_cons (se_var (i := 2) rfl (by walk_at "vv")) (sa_cons (se_var (i := 1) rfl (by walk_at "vv")) sa_nil)))))
      ss_nil))
      (ss_cons (ss_ret (se_var (i := 1) rfl (by walk_at "vv")))
      ss_nil))
theorem nd16 : (["term"] : List Str).Nodup := by decide +kernel
theorem d16 (hd : Hd K mg base g C_TermError cd tb) (Fs : Fs P w K mg base g c l k) {f : Addr} {A : Around} {outer : List Env} {s : Shared} {H : Hp} {E : XK} (hr : Room k (A.deeper (envOfC "within" (defScope (top 22)) s.heap.objs.size f (.ref (cd 16))))) :
    SSs (cxOf (L2.CX P w) P w K mg base ["term"] "within" (defScope (top 22)) f (.ref (cd 16)) A outer s H E) g (fun cls d _ H => E cls d H) (defBody (top 22)) (b16 c l) :=
    (ss_cons (ss_if (st_tru hd.gK (se_is2 "str" "int" hd.gK (by decide) (by decide) (by walk_at "gl") hd.m_isinstance (by walk_at "gl") hd.m_str (by rfl) (by decide) (by walk_at "gl") hd.m_int (by rfl) (by decide) (se_var (i := 0) rfl (by walk_at "vv")))) (ss_cons (ss_ret (se_tup (sa_cons (se_var (i := 0) rfl (by walk_at "vv")) sa_nil)))
      ss_nil) ss_nil)
      (ss_cons (ss_if (st_cmp (opEq hd.gK hr.units) (se_ix hd.gK (se_var (i := 0) rfl (by walk_at "vv")) se_int) (se_str [102, 117, 110])) (ss_cons (ss_ret (se_bin (opAdd hd.gK) (se_tup (sa_cons (se_var (i := 0) rfl (by walk_at "vv")) sa_nil)) (se_call Fs.f16 hd.gK hr (takes_of rfl rfl rfl rfl) (by walk_at "gl") (sa_cons (se_ix hd.gK (se_var (i := 0) rfl (by walk_at "vv")) se_int) sa_nil))))
      ss_nil) ss_nil)
      (ss_cons (ss_ret (se_bin (opAdd hd.gK) (se_bin (opAdd hd.gK) (se_tup (sa_cons (se_var (i := 0) rfl (by walk_at "vv")) sa_nil)) (se_call Fs.f16 hd.gK hr (takes_of rfl rfl rfl rfl) (by walk_at "gl") (sa_cons (se_ix hd.gK (se_var (i := 0) rfl (by walk_at "vv")) se_int) sa_nil))) (se_call Fs.f16 hd.gK hr (takes_of rfl rfl rfl rfl) (by walk_at "gl") (sa_cons (se_ix hd.gK (se_var (i := 0) rfl (by walk_at "vv")) se_int) sa_nil))))
      ss_nil)))
theorem nd17 : (["term"] : List Str).Nodup := by decide +kernel
theorem d17 (hd : Hd K mg base g C_TermError cd tb) (Fs : Fs P w K mg base g c l k) {f : Addr} {A : Around} {outer : List Env} {s : Shared} {H : Hp} {E : XK} (hr : Room k (A.deeper (envOfC "is_closed" (defScope (top 23)) s.heap.objs.size f (.ref (cd 17))))) :
    SSs (cxOf (L2.CX P w) P w K mg base ["term"] "is_closed" (defScope (top 23)) f (.ref (cd 17)) A outer s H E) g (fun cls d _ H => E cls d H) (defBody (top 23)) (b17 c l) :=
    (ss_cons (ss_ret (se_cmp (opEq hd.gK hr.units) (se_call Fs.f9 hd.gK hr (takes_of rfl rfl rfl rfl) (by walk_at "gl") (sa_cons (se_var (i := 0) rfl (by walk_at "vv")) sa_nil)) (se_tup sa_nil)))
      ss_nil)
theorem nd18 : (["term"] : List Str).Nodup := by decide +kernel
theorem d18 (hd : Hd K mg base g C_TermError cd tb) (Fs : Fs P w K mg base g c l k) {f : Addr} {A : Around} {outer : List Env} {s : Shared} {H : Hp} {E : XK} (hr : Room k (A.deeper (envOfC "told_tree" (defScope (top 24)) s.heap.objs.size f (.ref (cd 18))))) :
    SSs (cxOf (L2.CX P w) P w K mg base ["term"] "told_tree" (defScope (top 24)) f (.ref (cd 18)) A outer s H E) g (fun cls d _ H => E cls d H) (defBody (top 24)) (b18 c l) :=
    (ss_cons (ss_if (st_tru hd.gK (se_is2 "str" "int" hd.gK (by decide) (by decide) (by walk_at "gl") hd.m_isinstance (by walk_at "gl") hd.m_str (by rfl) (by decide) (by walk_at "gl") hd.m_int (by rfl) (by decide) (se_var (i := 0) rfl (by walk_at "vv")))) (ss_cons (ss_ret (se_tup (sa_cons (se_joined1 (se_fmt (se_var (i := 0) rfl (by walk_at "vv")))) sa_nil)))
      ss_nil) ss_nil)
      (ss_cons (ss_if (st_cmp (opEq hd.gK hr.units) (se_ix hd.gK (se_var (i := 0) rfl (by walk_at "vv")) se_int) (se_str [102, 117, 110])) (ss_cons (ss_ret (se_bin (opAdd hd.gK) (se_tup (sa_cons (se_bin (opAdd hd.gK) (se_str [33]) (se_ix hd.gK (se_var (i := 0) rfl (by walk_at "vv")) se_int)) sa_nil)) (se_tupS hd.gK hr (by walk_at "gl") hd.m_tuple (by rfl) hd.tb18 hd.hT18 hd.hu18 rfl (by walk_at "genS") (se_call Fs.f18 hd.gK hr (takes_of rfl rfl rfl rfl) (by walk_at "gl") (sa_cons (se_ix hd.gK (se_var (i := 0) rfl (by walk_at "vv")) se_int) sa_nil)) (fun items h1 => elq_addC [32, 32] rfl rfl h1) (fun _ => rfl))))
      ss_nil) ss_nil)
      (ss_cons (ss_ret (se_bin (opAdd hd.gK) (se_tup (sa_cons (se_str [64]) sa_nil)) (se_tupS hd.gK hr (by walk_at "gl") hd.m_tuple (by rfl) hd.tb18 hd.hT18 hd.hu18 rfl (by walk_at "genS") (se_bin (opAdd hd.gK) (se_call Fs.f18 hd.gK hr (takes_of rfl rfl rfl rfl) (by walk_at "gl") (sa_cons (se_ix hd.gK (se_var (i := 0) rfl (by walk_at "vv")) se_int) sa_nil)) (se_call Fs.f18 hd.gK hr (takes_of rfl rfl rfl rfl) (by walk_at "gl") (sa_cons (se_ix hd.gK (se_var (i := 0) rfl (by walk_at "vv")) se_int) sa_nil))) (fun items h1 => elq_addC [32, 32] rfl rfl h1) (fun _ => rfl))))
      ss_nil)))
theorem nd19 : (["cell"] : List Str).Nodup := by decide +kernel
theorem d19 (hd : Hd K mg base g C_TermError cd tb) (Fs : Fs P w K mg base g c l k) {f : Addr} {A : Around} {outer : List Env} {s : Shared} {H : Hp} {E : XK} (hr : Room k (A.deeper (envOfC "_law_dice" (defScope (top 26)) s.heap.objs.size f (.ref (cd 19))))) :
    SSs (cxOf (L2.CX P w) P w K mg base ["cell"] "_law_dice" (defScope (top 26)) f (.ref (cd 19)) A outer s H E) g (fun cls d _ H => E cls d H) (defBody (top 26)) (b19 c l) :=
    (ss_cons (ss_if (st_chn (opLt) (opLt) (se_bin (opSub) se_int se_int) (se_var (i := 0) rfl (by walk_at "vv")) se_int) (ss_cons (ss_ret (se_lst (sa_cons (se_callB (callAbs) (by walk_at "gl") hd.m_abs (by rfl) (sa_cons (se_var (i := 0) rfl (by walk_at "vv")) sa_nil)) (sa_cons se_int (sa_cons se_int sa_nil)))))
      ss_nil) ss_nil)
      (ss_cons (ss_ret (se_lst (sa_cons (se_var (i := 0) rfl (by walk_at "vv")) (sa_cons (se_bin (opAdd hd.gK) se_int (se_bin (opMod) (se_callTy (callInt) (by walk_at "gl") hd.m_int (by rfl) (sa_cons (se_var (i := 0) rfl (by walk_at "vv")) sa_nil)) se_int)) (sa_cons (se_callTy (callInt) (by walk_at "gl") hd.m_int (by rfl) (sa_cons (se_cmp (opGe) (se_var (i := 0) rfl (by walk_at "vv")) (se_bin (opPow) se_int se_int)) sa_nil)) sa_nil)))))
      ss_nil))
theorem nd20 : (["dice", "many", "found"] : List Str).Nodup := by decide +kernel
theorem d20 (hd : Hd K mg base g C_TermError cd tb) (Fs : Fs P w K mg base g c l k) {f : Addr} {A : Around} {outer : List Env} {s : Shared} {H : Hp} {E : XK} (hr : Room k (A.deeper (envOfC "_law_roll" (defScope (top 27)) s.heap.objs.size f (.ref (cd 20))))) :
    SSs (cxOf (L2.CX P w) P w K mg base ["dice", "many", "found"] "_law_roll" (defScope (top 27)) f (.ref (cd 20)) A outer s H E) g (fun cls d _ H => E cls d H) (defBody (top 27)) (b20 c l) :=
    (ss_cons (ss_if (st_w (sw_or (st_cmp (opEq hd.gK hr.units) (se_ix hd.gK (se_var (i := 0) rfl (by walk_at "vv")) se_int) se_int) (sw_or1 (st_w (sw_and (st_cmp (opEq hd.gK hr.units) (se_ix hd.gK (se_var (i := 0) rfl (by walk_at "vv")) se_int) se_int) (sw_and1 (st_cmp (opGt) (se_ix hd.gK (se_var (i := 0) rfl (by walk_at "vv")) se_int) se_int))))))) (ss_cons (ss_set nd20 rfl (by walk_at "lo") (se_bin (opMod) (se_callTy (callInt) (by walk_at "gl") hd.m_int (by rfl) (sa_cons (se_ix hd.gK (se_var (i := 0) rfl (by walk_at "vv")) se_int) sa_nil)) (se_var (i := 1) rfl (by walk_at "vv"))))
      (ss_cons (ss_asg (se_bin (opFdiv) (se_ix hd.gK (se_var (i := 0) rfl (by walk_at "vv")) se_int) (se_var (i := 1) rfl (by walk_at "vv"))) (sg_sub (W := WF) (hu_of hr) (se_var (i := 0) rfl (by walk_at "vv")) se_int))
      (ss_cons (ss_ret (se_var (i := 2) rfl (by walk_at "vv")))
      ss_nil))) ss_nil)
      (ss_cons (ss_asg se_int (sg_sub (W := WF) (hu_of hr) (se_var (i := 0) rfl (by walk_at "vv")) se_int))
      (ss_cons (ss_if (st_cmp (opGt) (se_var (i := 1) rfl (by walk_at "vv")) se_int) (ss_cons (ss_ret (se_bin (opMod) (se_callTy (callInt) (by walk_at "gl") hd.m_int (by rfl) (sa_cons (se_bin (opAdd hd.gK) (se_bin (opMul) (se_call Fs.f20 hd.gK hr (takes_of rfl rfl rfl rfl) (by walk_at "gl") (sa_cons (se_var (i := 0) rfl (by walk_at "vv")) (sa_cons (se_bin (opAdd hd.gK) (se_bin (opFdiv) (se_var (i := 1) rfl (by walk_at "vv")) se_int) se_int) sa_nil))) se_int) (se_call Fs.f20 hd.gK hr (takes_of rfl rfl rfl rfl) (by walk_at "gl") (sa_cons (se_var (i := 0) rfl (by walk_at "vv")) (sa_cons se_int sa_nil)))) sa_nil)) (se_var (i := 1) rfl (by walk_at "vv"))))
      ss_nil) ss_nil)
      (ss_cons (ss_asg (se_bin (opMod) (se_callTy (callInt) (by walk_at "gl") hd.m_int (by rfl) (sa_cons (se_bin (opAdd hd.gK) (se_bin (opAdd hd.gK) (se_bin (opMul) (se_ix hd.gK (se_var (i := 0) rfl (by walk_at "vv")) se_int) se_int) (se_bin (opMul) (se_ix hd.gK (se_var (i := 0) rfl (by walk_at "vv")) se_int) se_int)) se_int) sa_nil)) se_int) (sg_sub (W := WF) (hu_of hr) (se_var (i := 0) rfl (by walk_at "vv")) se_int))
      (ss_cons (ss_asg (se_bin (opAdd hd.gK) (se_ix hd.gK (se_var (i := 0) rfl (by walk_at "vv")) se_int) se_int) (sg_sub (W := WF) (hu_of hr) (se_var (i := 0) rfl (by walk_at "vv")) se_int))
      (ss_cons (ss_ret (se_bin (opMod) (se_callTy (callInt) (by walk_at "gl") hd.m_int (by rfl) (sa_cons (se_bin (opFdiv) (se_ix hd.gK (se_var (i := 0) rfl (by walk_at "vv")) se_int) se_int) sa_nil)) (se_var (i := 1) rfl (by walk_at "vv"))))
      ss_nil))))))
theorem nd21 : (["script", "most", "cells", "cell"] : List Str).Nodup := by decide +kernel
theorem d21 (hd : Hd K mg base g C_TermError cd tb) (Fs : Fs P w K mg base g c l k) {f : Addr} {A : Around} {outer : List Env} {s : Shared} {H : Hp} {E : XK} (hr : Room k (A.deeper (envOfC "_law_rounds" (defScope (top 28)) s.heap.objs.size f (.ref (cd 21))))) :
    SSs (cxOf (L2.CX P w) P w K mg base ["script", "most", "cells", "cell"] "_law_rounds" (defScope (top 28)) f (.ref (cd 21)) A outer s H E) g (fun cls d _ H => E cls d H) (defBody (top 28)) (b21 c l) :=
    (ss_cons (ss_set nd21 rfl (by walk_at "lo") (se_sl hd.gK (se_var (i := 0) rfl (by walk_at "vv")) so_no (so_so (se_var (i := 1) rfl (by walk_at "vv")))))
      (ss_cons (ss_if (st_cmp (opEq hd.gK hr.units) (se_var (i := 2) rfl (by walk_at "vv")) (se_lst sa_nil)) (ss_cons (ss_set nd21 rfl (by walk_at "lo") (se_lst (sa_cons se_int sa_nil)))
      ss_nil) ss_nil)
      (ss_cons (ss_ret (se_lc rfl nd21 (si_any hd.gK (se_var (i := 2) rfl (by walk_at "vv"))) (blkOk_by (own := [("cell", 3)]) (by walk_at "blk")) (fun _ _ _ _ _ => (sgc_name (i := 3) nd21 rfl (by decide) (by walk_at "lo"))) (fun _ _ _ _ _ => sts_nil) (fun _ _ _ _ _ => (se_call Fs.f19 hd.gK hr takes_F (by walk_at "gl") (sa_cons (se_var (i := 3) rfl (by walk_at "vv")) sa_nil)))))
      ss_nil)))
theorem nd22 : (["what"] : List Str).Nodup := by decide +kernel
theorem d22 (hd : Hd K mg base g C_TermError cd tb) (Fs : Fs P w K mg base g c l k) {f : Addr} {A : Around} {outer : List Env} {s : Shared} {H : Hp} {E : XK} (hr : Room k (A.deeper (envOfC "_law_told" (defScope (top 29)) s.heap.objs.size f (.ref (cd 22))))) :
    SSs (cxOf (L2.CX P w) P w K mg base ["what"] "_law_told" (defScope (top 29)) f (.ref (cd 22)) A outer s H E) g (fun cls d _ H => E cls d H) (defBody (top 29)) (b22 c l) :=
    (ss_cons (ss_try rfl rfl ⟨(by walk_at "gl"), by decide, .inl hd.x_TermError.gC⟩ (takes_of rfl rfl rfl rfl) hd.t_TermError (fun W' pn xe tk' hp' => (ss_cons (ss_ret (se_callV (i := 0) rfl (by walk_at "vv") hr tk' Fs.lam))
      ss_nil)) (fun a oe cls d pn _ _ => (ss_cons (ss_ret (se_str [84, 101, 114, 109, 69, 114, 114, 111, 114]))
      ss_nil)))
      ss_nil)
theorem nd23 : (["dice", "deep", "names", "sort", "name"] : List Str).Nodup := by decide +kernel
theorem d23 (hd : Hd K mg base g C_TermError cd tb) (Fs : Fs P w K mg base g c l k) {f : Addr} {A : Around} {outer : List Env} {s : Shared} {H : Hp} {E : XK} (hr : Room k (A.deeper (envOfC "_law_term" (defScope (top 30)) s.heap.objs.size f (.ref (cd 23))))) :
    SSs (cxOf (L2.CX P w) P w K mg base ["dice", "deep", "names", "sort", "name"] "_law_term" (defScope (top 30)) f (.ref (cd 23)) A outer s H E) g (fun cls d _ H => E cls d H) (defBody (top 30)) (b23 c l) :=
    (ss_cons (ss_set nd23 rfl (by walk_at "lo") (se_call Fs.f20 hd.gK hr (takes_of rfl rfl rfl rfl) (by walk_at "gl") (sa_cons (se_var (i := 0) rfl (by walk_at "vv")) (sa_cons (se_if (st_cmp (opGt) (se_var (i := 1) rfl (by walk_at "vv")) se_int) se_int se_int) sa_nil))))
      (ss_cons (ss_if (st_cmp (opLt) (se_var (i := 3) rfl (by walk_at "vv")) se_int) (ss_cons (ss_ret (se_if (st_cmp (opGt) (se_call Fs.f20 hd.gK hr (takes_of rfl rfl rfl rfl) (by walk_at "gl") (sa_cons (se_var (i := 0) rfl (by walk_at "vv")) (sa_cons se_int sa_nil))) se_int) (se_ix hd.gK (se_bin (opAdd hd.gK) (se_lst (sa_cons (se_str [120]) (sa_cons (se_str [121]) (sa_cons (se_str [122]) sa_nil)))) (se_var (i := 2) rfl (by walk_at "vv"))) (se_call Fs.f20 hd.gK hr (takes_of rfl rfl rfl rfl) (by walk_at "gl") (sa_cons (se_var (i := 0) rfl (by walk_at "vv")) (sa_cons (se_bin (opAdd hd.gK) se_int (se_callB (callLen hd.gK) (by walk_at "gl") hd.m_len (by rfl) (sa_cons (se_var (i := 2) rfl (by walk_at "vv")) sa_nil))) sa_nil)))) (se_call Fs.f20 hd.gK hr (takes_of rfl rfl rfl rfl) (by walk_at "gl") (sa_cons (se_var (i := 0) rfl (by walk_at "vv")) (sa_cons se_int sa_nil)))))
      ss_nil) ss_nil)
      (ss_cons (ss_if (st_cmp (opLt) (se_var (i := 3) rfl (by walk_at "vv")) se_int) (ss_cons (ss_set nd23 rfl (by walk_at "lo") (se_ix hd.gK (se_lst (sa_cons (se_str [120]) (sa_cons (se_str [121]) (sa_cons (se_str [122]) (sa_cons (se_str [117]) sa_nil))))) (se_call Fs.f20 hd.gK hr (takes_of rfl rfl rfl rfl) (by walk_at "gl") (sa_cons (se_var (i := 0) rfl (by walk_at "vv")) (sa_cons se_int sa_nil)))))
      (ss_cons (ss_ret (se_tup (sa_cons (se_str [102, 117, 110]) (sa_cons (se_var (i := 4) rfl (by walk_at "vv")) (sa_cons (se_call Fs.f23 hd.gK hr (takes_of rfl rfl rfl rfl) (by walk_at "gl") (sa_cons (se_var (i := 0) rfl (by walk_at "vv")) (sa_cons (se_bin (opSub) (se_var (i := 1) rfl (by walk_at "vv")) se_int) (sa_cons (se_var (i := 2) rfl (by walk_at "vv")) sa_nil)))) sa_nil)))))
      ss_nil)) ss_nil)
      (ss_cons (ss_ret (se_tup (sa_cons (se_str [97, 116]) (sa_cons (se_call Fs.f23 hd.gK hr (takes_of rfl rfl rfl rfl) (by walk_at "gl") (sa_cons (se_var (i := 0) rfl (by walk_at "vv")) (sa_cons (se_bin (opSub) (se_var (i := 1) rfl (by walk_at "vv")) se_int) (sa_cons (se_var (i := 2) rfl (by walk_at "vv")) sa_nil)))) (sa_cons (se_call Fs.f23 hd.gK hr (takes_of rfl rfl rfl rfl) (by walk_at "gl") (sa_cons (se_var (i := 0) rfl (by walk_at "vv")) (sa_cons (se_bin (opSub) (se_var (i := 1) rfl (by walk_at "vv")) se_int) (sa_cons (se_var (i := 2) rfl (by walk_at "vv")) sa_nil)))) sa_nil)))))
      ss_nil))))
theorem nd24 : (["term"] : List Str).Nodup := by decide +kernel
theorem d24 (hd : Hd K mg base g C_TermError cd tb) (Fs : Fs P w K mg base g c l k) {f : Addr} {A : Around} {outer : List Env} {s : Shared} {H : Hp} {E : XK} (hr : Room k (A.deeper (envOfC "_law_full" (defScope (top 31)) s.heap.objs.size f (.ref (cd 24))))) :
    SSs (cxOf (L2.CX P w) P w K mg base ["term"] "_law_full" (defScope (top 31)) f (.ref (cd 24)) A outer s H E) g (fun cls d _ H => E cls d H) (defBody (top 31)) (b24 c l) :=
    (ss_cons (ss_if (st_not (st_tru hd.gK (se_is1 "tuple" hd.gK (by decide) (by walk_at "gl") hd.m_isinstance (by walk_at "gl") hd.m_tuple (by rfl) (by decide) (se_var (i := 0) rfl (by walk_at "vv"))))) (ss_cons (ss_ret (se_callTy (callStr) (by walk_at "gl") hd.m_str (by rfl) (sa_cons (se_var (i := 0) rfl (by walk_at "vv")) sa_nil)))
      ss_nil) ss_nil)
      (ss_cons (ss_if (st_cmp (opEq hd.gK hr.units) (se_ix hd.gK (se_var (i := 0) rfl (by walk_at "vv")) se_int) (se_str [102, 117, 110])) (ss_cons (ss_ret (se_bin (opAdd hd.gK) (se_bin (opAdd hd.gK) (se_bin (opAdd hd.gK) (se_bin (opAdd hd.gK) (se_str [40, 33]) (se_ix hd.gK (se_var (i := 0) rfl (by walk_at "vv")) se_int)) (se_str [46])) (se_call Fs.f24 hd.gK hr (takes_of rfl rfl rfl rfl) (by walk_at "gl") (sa_cons (se_ix hd.gK (se_var (i := 0) rfl (by walk_at "vv")) se_int) sa_nil))) (se_str [41])))
      ss_nil) ss_nil)
      (ss_cons (ss_ret (se_bin (opAdd hd.gK) (se_bin (opAdd hd.gK) (se_bin (opAdd hd.gK) (se_bin (opAdd hd.gK) (se_str [40]) (se_call Fs.f24 hd.gK hr (takes_of rfl rfl rfl rfl) (by walk_at "gl") (sa_cons (se_ix hd.gK (se_var (i := 0) rfl (by walk_at "vv")) se_int) sa_nil))) (se_str [10])) (se_call Fs.f24 hd.gK hr (takes_of rfl rfl rfl rfl) (by walk_at "gl") (sa_cons (se_ix hd.gK (se_var (i := 0) rfl (by walk_at "vv")) se_int) sa_nil))) (se_str [41])))
      ss_nil)))
theorem nd25 : (["term", "where", "found", "inner"] : List Str).Nodup := by decide +kernel
theorem d25 (hd : Hd K mg base g C_TermError cd tb) (Fs : Fs P w K mg base g c l k) {f : Addr} {A : Around} {outer : List Env} {s : Shared} {H : Hp} {E : XK} (hr : Room k (A.deeper (envOfC "_law_text" (defScope (top 32)) s.heap.objs.size f (.ref (cd 25))))) :
    SSs (cxOf (L2.CX P w) P w K mg base ["term", "where", "found", "inner"] "_law_text" (defScope (top 32)) f (.ref (cd 25)) A outer s H E) g (fun cls d _ H => E cls d H) (defBody (top 32)) (b25 c l) :=
    (ss_cons (ss_if (st_not (st_tru hd.gK (se_is1 "tuple" hd.gK (by decide) (by walk_at "gl") hd.m_isinstance (by walk_at "gl") hd.m_tuple (by rfl) (by decide) (se_var (i := 0) rfl (by walk_at "vv"))))) (ss_cons (ss_ret (se_callTy (callStr) (by walk_at "gl") hd.m_str (by rfl) (sa_cons (se_var (i := 0) rfl (by walk_at "vv")) sa_nil)))
      ss_nil) ss_nil)
      (ss_cons (ss_if (st_cmp (opEq hd.gK hr.units) (se_ix hd.gK (se_var (i := 0) rfl (by walk_at "vv")) se_int) (se_str [102, 117, 110])) (ss_cons (ss_set nd25 rfl (by walk_at "lo") (se_call Fs.f25 hd.gK hr (takes_of rfl rfl rfl rfl) (by walk_at "gl") (sa_cons (se_ix hd.gK (se_var (i := 0) rfl (by walk_at "vv")) se_int) (sa_cons (se_str [97, 108, 108]) sa_nil))))
      (ss_cons (ss_set nd25 rfl (by walk_at "lo") (se_bin (opAdd hd.gK) (se_bin (opAdd hd.gK) (se_str [33]) (se_ix hd.gK (se_var (i := 0) rfl (by walk_at "vv")) se_int)) (se_if (st_cmp (opEq hd.gK hr.units) (se_ix hd.gK (se_var (i := 3) rfl (by walk_at "vv")) se_int) (se_str [33])) (se_bin (opAdd hd.gK) (se_str [32]) (se_sl hd.gK (se_var (i := 3) rfl (by walk_at "vv")) (so_so se_int) so_no)) (se_bin (opAdd hd.gK) (se_str [46, 32]) (se_var (i := 3) rfl (by walk_at "vv"))))))
      (ss_cons (ss_ret (se_if (st_cmp (opEq hd.gK hr.units) (se_var (i := 1) rfl (by walk_at "vv")) (se_str [97, 108, 108])) (se_var (i := 2) rfl (by walk_at "vv")) (se_bin (opAdd hd.gK) (se_bin (opAdd hd.gK) (se_str [40]) (se_var (i := 2) rfl (by walk_at "vv"))) (se_str [41]))))
      ss_nil))) ss_nil)
      (ss_cons (ss_set nd25 rfl (by walk_at "lo") (se_bin (opAdd hd.gK) (se_bin (opAdd hd.gK) (se_call Fs.f25 hd.gK hr (takes_of rfl rfl rfl rfl) (by walk_at "gl") (sa_cons (se_ix hd.gK (se_var (i := 0) rfl (by walk_at "vv")) se_int) (sa_cons (se_str [102, 105, 114, 115, 116]) sa_nil))) (se_str [32])) (se_call Fs.f25 hd.gK hr (takes_of rfl rfl rfl rfl) (by walk_at "gl") (sa_cons (se_ix hd.gK (se_var (i := 0) rfl (by walk_at "vv")) se_int) (sa_cons (se_str [108, 97, 115, 116]) sa_nil)))))
      (ss_cons (ss_ret (se_if (st_cmp (opNe hd.gK hr.units) (se_var (i := 1) rfl (by walk_at "vv")) (se_str [108, 97, 115, 116])) (se_var (i := 2) rfl (by walk_at "vv")) (se_bin (opAdd hd.gK) (se_bin (opAdd hd.gK) (se_str [40]) (se_var (i := 2) rfl (by walk_at "vv"))) (se_str [41]))))
      ss_nil))))
theorem nd26 : (["term", "found", "name"] : List Str).Nodup := by decide +kernel
theorem d26 (hd : Hd K mg base g C_TermError cd tb) (Fs : Fs P w K mg base g c l k) {f : Addr} {A : Around} {outer : List Env} {s : Shared} {H : Hp} {E : XK} (hr : Room k (A.deeper (envOfC "_law_free" (defScope (top 33)) s.heap.objs.size f (.ref (cd 26))))) :
    SSs (cxOf (L2.CX P w) P w K mg base ["term", "found", "name"] "_law_free" (defScope (top 33)) f (.ref (cd 26)) A outer s H E) g (fun cls d _ H => E cls d H) (defBody (top 33)) (b26 c l) :=
    (ss_cons (ss_if (st_tru hd.gK (se_is1 "int" hd.gK (by decide) (by walk_at "gl") hd.m_isinstance (by walk_at "gl") hd.m_int (by rfl) (by decide) (se_var (i := 0) rfl (by walk_at "vv")))) (ss_cons (ss_ret (se_lst sa_nil))
      ss_nil) ss_nil)
      (ss_cons (ss_if (st_tru hd.gK (se_is1 "str" hd.gK (by decide) (by walk_at "gl") hd.m_isinstance (by walk_at "gl") hd.m_str (by rfl) (by decide) (se_var (i := 0) rfl (by walk_at "vv")))) (ss_cons (ss_ret (se_lst (sa_cons (se_var (i := 0) rfl (by walk_at "vv")) sa_nil)))
      ss_nil) ss_nil)
      (ss_cons (ss_set nd26 rfl (by walk_at "lo") (se_if (st_cmp (opEq hd.gK hr.units) (se_ix hd.gK (se_var (i := 0) rfl (by walk_at "vv")) se_int) (se_str [102, 117, 110])) (se_lc rfl nd26 (si_any hd.gK (se_call Fs.f26 hd.gK hr (takes_of rfl rfl rfl rfl) (by walk_at "gl") (sa_cons (se_ix hd.gK (se_var (i := 0) rfl (by walk_at "vv")) se_int) sa_nil))) (blkOk_by (own := [("name", 2)]) (by walk_at "blk")) (fun _ _ _ _ _ => (sgc_name (i := 2) nd26 rfl (by decide) (by walk_at "lo"))) (fun _ _ _ _ _ => (sts_one (st_cmp (opNe hd.gK hr.units) (se_var (i := 2) rfl (by walk_at "vv")) (se_ix hd.gK (se_var (i := 0) rfl (by walk_at "vv")) se_int)))) (fun _ _ _ _ _ => (se_var (i := 2) rfl (by walk_at "vv")))) (se_bin (opAdd hd.gK) (se_call Fs.f26 hd.gK hr (takes_of rfl rfl rfl rfl) (by walk_at "gl") (sa_cons (se_ix hd.gK (se_var (i := 0) rfl (by walk_at "vv")) se_int) sa_nil)) (se_call Fs.f26 hd.gK hr (takes_of rfl rfl rfl rfl) (by walk_at "gl") (sa_cons (se_ix hd.gK (se_var (i := 0) rfl (by walk_at "vv")) se_int) sa_nil)))))
      (ss_cons (ss_ret (se_callTy (callLst hd.gK rfl) (by walk_at "gl") hd.m_list (by rfl) (sa_cons (se_callTy (callDic hd.gK rfl) (by walk_at "gl") hd.m_dict (by rfl) (sa_cons (se_lc rfl nd26 (si_any hd.gK (se_var (i := 1) rfl (by walk_at "vv"))) (blkOk_by (own := [("name", 2)]) (by walk_at "blk")) (fun _ _ _ _ _ => (sgc_name (i := 2) nd26 rfl (by decide) (by walk_at "lo"))) (fun _ _ _ _ _ => sts_nil) (fun _ _ _ _ _ => (se_tup (sa_cons (se_var (i := 2) rfl (by walk_at "vv")) (sa_cons se_int sa_nil))))) sa_nil)) sa_nil)))
      ss_nil))))
theorem nd27 : (["term", "name"] : List Str).Nodup := by decide +kernel
theorem d27 (hd : Hd K mg base g C_TermError cd tb) (Fs : Fs P w K mg base g c l k) {f : Addr} {A : Around} {outer : List Env} {s : Shared} {H : Hp} {E : XK} (hr : Room k (A.deeper (envOfC "_law_all" (defScope (top 34)) s.heap.objs.size f (.ref (cd 27))))) :
    SSs (cxOf (L2.CX P w) P w K mg base ["term", "name"] "_law_all" (defScope (top 34)) f (.ref (cd 27)) A outer s H E) g (fun cls d _ H => E cls d H) (defBody (top 34)) (b27 c l) :=
    (ss_cons (ss_if (st_not (st_tru hd.gK (se_is1 "tuple" hd.gK (by decide) (by walk_at "gl") hd.m_isinstance (by walk_at "gl") hd.m_tuple (by rfl) (by decide) (se_var (i := 0) rfl (by walk_at "vv"))))) (ss_cons (ss_ret (se_bin (opMul) (se_lst (sa_cons (se_var (i := 0) rfl (by walk_at "vv")) sa_nil)) (se_callTy (callInt) (by walk_at "gl") hd.m_int (by rfl) (sa_cons (se_is1 "str" hd.gK (by decide) (by walk_at "gl") hd.m_isinstance (by walk_at "gl") hd.m_str (by rfl) (by decide) (se_var (i := 0) rfl (by walk_at "vv"))) sa_nil))))
      ss_nil) ss_nil)
      (ss_cons (ss_ret (se_callTy (callLst hd.gK rfl) (by walk_at "gl") hd.m_list (by rfl) (sa_cons (se_callTy (callDic hd.gK rfl) (by walk_at "gl") hd.m_dict (by rfl) (sa_cons (se_lc rfl nd27 (si_any hd.gK (se_bin (opAdd hd.gK) (se_if (st_cmp (opEq hd.gK hr.units) (se_ix hd.gK (se_var (i := 0) rfl (by walk_at "vv")) se_int) (se_str [102, 117, 110])) (se_lst (sa_cons (se_ix hd.gK (se_var (i := 0) rfl (by walk_at "vv")) se_int) sa_nil)) (se_call Fs.f27 hd.gK hr (takes_of rfl rfl rfl rfl) (by walk_at "gl") (sa_cons (se_ix hd.gK (se_var (i := 0) rfl (by walk_at "vv")) se_int) sa_nil))) (se_call Fs.f27 hd.gK hr (takes_of rfl rfl rfl rfl) (by walk_at "gl") (sa_cons (se_ix hd.gK (se_var (i := 0) rfl (by walk_at "vv")) se_int) sa_nil)))) (blkOk_by (own := [("name", 1)]) (by walk_at "blk")) (fun _ _ _ _ _ => (sgc_name (i := 1) nd27 rfl (by decide) (by walk_at "lo"))) (fun _ _ _ _ _ => sts_nil) (fun _ _ _ _ _ => (se_tup (sa_cons (se_var (i := 1) rfl (by walk_at "vv")) (sa_cons se_int sa_nil))))) sa_nil)) sa_nil)))
      ss_nil))
theorem nd28 : (["term"] : List Str).Nodup := by decide +kernel
theorem d28 (hd : Hd K mg base g C_TermError cd tb) (Fs : Fs P w K mg base g c l k) {f : Addr} {A : Around} {outer : List Env} {s : Shared} {H : Hp} {E : XK} (hr : Room k (A.deeper (envOfC "_law_within" (defScope (top 35)) s.heap.objs.size f (.ref (cd 28))))) :
    SSs (cxOf (L2.CX P w) P w K mg base ["term"] "_law_within" (defScope (top 35)) f (.ref (cd 28)) A outer s H E) g (fun cls d _ H => E cls d H) (defBody (top 35)) (b28 c l) :=
    (ss_cons (ss_if (st_not (st_tru hd.gK (se_is1 "tuple" hd.gK (by decide) (by walk_at "gl") hd.m_isinstance (by walk_at "gl") hd.m_tuple (by rfl) (by decide) (se_var (i := 0) rfl (by walk_at "vv"))))) (ss_cons (ss_ret (se_lst (sa_cons (se_var (i := 0) rfl (by walk_at "vv")) sa_nil)))
      ss_nil) ss_nil)
      (ss_cons (ss_ret (se_bin (opAdd hd.gK) (se_bin (opAdd hd.gK) (se_lst (sa_cons (se_var (i := 0) rfl (by walk_at "vv")) sa_nil)) (se_if (st_cmp (opEq hd.gK hr.units) (se_ix hd.gK (se_var (i := 0) rfl (by walk_at "vv")) se_int) (se_str [102, 117, 110])) (se_lst sa_nil) (se_call Fs.f28 hd.gK hr (takes_of rfl rfl rfl rfl) (by walk_at "gl") (sa_cons (se_ix hd.gK (se_var (i := 0) rfl (by walk_at "vv")) se_int) sa_nil)))) (se_call Fs.f28 hd.gK hr (takes_of rfl rfl rfl rfl) (by walk_at "gl") (sa_cons (se_ix hd.gK (se_var (i := 0) rfl (by walk_at "vv")) se_int) sa_nil))))
      ss_nil))
theorem nd29 : (["term"] : List Str).Nodup := by decide +kernel
theorem d29 (hd : Hd K mg base g C_TermError cd tb) (Fs : Fs P w K mg base g c l k) {f : Addr} {A : Around} {outer : List Env} {s : Shared} {H : Hp} {E : XK} (hr : Room k (A.deeper (envOfC "_law_depth" (defScope (top 36)) s.heap.objs.size f (.ref (cd 29))))) :
    SSs (cxOf (L2.CX P w) P w K mg base ["term"] "_law_depth" (defScope (top 36)) f (.ref (cd 29)) A outer s H E) g (fun cls d _ H => E cls d H) (defBody (top 36)) (b29 c l) :=
    (ss_cons (ss_ret (se_if (st_not (st_tru hd.gK (se_is1 "tuple" hd.gK (by decide) (by walk_at "gl") hd.m_isinstance (by walk_at "gl") hd.m_tuple (by rfl) (by decide) (se_var (i := 0) rfl (by walk_at "vv"))))) se_int (se_bin (opAdd hd.gK) se_int (se_callB (callMax rfl) (by walk_at "gl") hd.m_max (by rfl) (sa_cons (se_call Fs.f29 hd.gK hr (takes_of rfl rfl rfl rfl) (by walk_at "gl") (sa_cons (se_ix hd.gK (se_var (i := 0) rfl (by walk_at "vv")) se_int) sa_nil)) (sa_cons (se_if (st_cmp (opEq hd.gK hr.units) (se_ix hd.gK (se_var (i := 0) rfl (by walk_at "vv")) se_int) (se_str [102, 117, 110])) se_int (se_call Fs.f29 hd.gK hr (takes_of rfl rfl rfl rfl) (by walk_at "gl") (sa_cons (se_ix hd.gK (se_var (i := 0) rfl (by walk_at "vv")) se_int) sa_nil))) sa_nil))))))
      ss_nil)
theorem nd30 : (["term", "rows", "row"] : List Str).Nodup := by decide +kernel
theorem d30 (hd : Hd K mg base g C_TermError cd tb) (Fs : Fs P w K mg base g c l k) {f : Addr} {A : Around} {outer : List Env} {s : Shared} {H : Hp} {E : XK} (hr : Room k (A.deeper (envOfC "_law_lines" (defScope (top 37)) s.heap.objs.size f (.ref (cd 30))))) :
    SSs (cxOf (L2.CX P w) P w K mg base ["term", "rows", "row"] "_law_lines" (defScope (top 37)) f (.ref (cd 30)) A outer s H E) g (fun cls d _ H => E cls d H) (defBody (top 37)) (b30 c l) :=
    (ss_cons (ss_if (st_not (st_tru hd.gK (se_is1 "tuple" hd.gK (by decide) (by walk_at "gl") hd.m_isinstance (by walk_at "gl") hd.m_tuple (by rfl) (by decide) (se_var (i := 0) rfl (by walk_at "vv"))))) (ss_cons (ss_ret (se_lst (sa_cons (se_callTy (callStr) (by walk_at "gl") hd.m_str (by rfl) (sa_cons (se_var (i := 0) rfl (by walk_at "vv")) sa_nil)) sa_nil)))
      ss_nil) ss_nil)
      (ss_cons (ss_set nd30 rfl (by walk_at "lo") (se_if (st_cmp (opEq hd.gK hr.units) (se_ix hd.gK (se_var (i := 0) rfl (by walk_at "vv")) se_int) (se_str [102, 117, 110])) (se_call Fs.f30 hd.gK hr (takes_of rfl rfl rfl rfl) (by walk_at "gl") (sa_cons (se_ix hd.gK (se_var (i := 0) rfl (by walk_at "vv")) se_int) sa_nil)) (se_bin (opAdd hd.gK) (se_call Fs.f30 hd.gK hr (takes_of rfl rfl rfl rfl) (by walk_at "gl") (sa_cons (se_ix hd.gK (se_var (i := 0) rfl (by walk_at "vv")) se_int) sa_nil)) (se_call Fs.f30 hd.gK hr (takes_of rfl rfl rfl rfl) (by walk_at "gl") (sa_cons (se_ix hd.gK (se_var (i := 0) rfl (by walk_at "vv")) se_int) sa_nil)))))
      (ss_cons (ss_ret (se_bin (opAdd hd.gK) (se_lst (sa_cons (se_if (st_cmp (opEq hd.gK hr.units) (se_ix hd.gK (se_var (i := 0) rfl (by walk_at "vv")) se_int) (se_str [102, 117, 110])) (se_bin (opAdd hd.gK) (se_str [33]) (se_ix hd.gK (se_var (i := 0) rfl (by walk_at "vv")) se_int)) (se_str [64])) sa_nil)) (se_lc rfl nd30 (si_any hd.gK (se_var (i := 1) rfl (by walk_at "vv"))) (blkOk_by (own := [("row", 2)]) (by walk_at "blk")) (fun _ _ _ _ _ => (sgc_name (i := 2) nd30 rfl (by decide) (by walk_at "lo"))) (fun _ _ _ _ _ => sts_nil) (fun _ _ _ _ _ => (se_bin (opAdd hd.gK) (se_str [32, 32]) (se_var (i := 2) rfl (by walk_at "vv")))))))
      ss_nil)))
theorem nd31 : (["term", "told", "bad", "due", "k", "f"] : List Str).Nodup := by decide +kernel
theorem d31 (hd : Hd K mg base g C_TermError cd tb) (Fs : Fs P w K mg base g c l k) {f : Addr} {A : Around} {outer : List Env} {s : Shared} {H : Hp} {E : XK} (hr : Room k (A.deeper (envOfC "_law_plain" (defScope (top 38)) s.heap.objs.size f (.ref (cd 31))))) :
    SSs (cxOf (L2.CX P w) P w K mg base ["term", "told", "bad", "due", "k", "f"] "_law_plain" (defScope (top 38)) f (.ref (cd 31)) A outer s H E) g (fun cls d _ H => E cls d H) (defBody (top 38)) (b31 c l) :=
    (ss_cons (ss_set nd31 rfl (by walk_at "lo") (se_call Fs.f3 hd.gK hr (takes_of rfl rfl rfl rfl) (by walk_at "gl") (sa_cons (se_str [33, 102, 32, 120, 46, 32, 102, 32, 40, 102, 32, 49, 50, 41, 32, 33, 121, 46, 32, 121, 32, 120, 95]) sa_nil)))
      (ss_cons (ss_set nd31 rfl (by walk_at "lo") (se_lst (sa_cons (se_var (i := 0) rfl (by walk_at "vv")) (sa_cons (se_call Fs.f7 hd.gK hr (takes_of rfl rfl rfl rfl) (by walk_at "gl") (sa_cons (se_var (i := 0) rfl (by walk_at "vv")) sa_nil)) (sa_cons (se_call Fs.f0 hd.gK hr (takes_of rfl rfl rfl rfl) (by walk_at "gl") (sa_cons (se_str [33, 120, 46, 32, 40, 120, 32, 121, 95, 41]) sa_nil)) (sa_cons (se_call Fs.f1 hd.gK hr (takes_of rfl rfl rfl rfl) (by walk_at "gl") (sa_cons (se_str [97, 49, 95]) sa_nil)) (sa_cons (se_call Fs.f1 hd.gK hr (takes_of rfl rfl rfl rfl) (by walk_at "gl") (sa_cons (se_str [95, 97]) sa_nil)) (sa_cons (se_call Fs.f1 hd.gK hr (takes_of rfl rfl rfl rfl) (by walk_at "gl") (sa_cons (se_str [49, 97]) sa_nil)) (sa_cons (se_call Fs.f1 hd.gK hr (takes_of rfl rfl rfl rfl) (by walk_at "gl") (sa_cons (se_str []) sa_nil)) (sa_cons (se_call Fs.f2 hd.gK hr (takes_of rfl rfl rfl rfl) (by walk_at "gl") (sa_cons (se_str [48]) sa_nil)) (sa_cons (se_call Fs.f2 hd.gK hr (takes_of rfl rfl rfl rfl) (by walk_at "gl") (sa_cons (se_str [48, 49]) sa_nil)) sa_nil)))))))))))
      (ss_cons (ss_set nd31 rfl (by walk_at "lo") (se_bin (opAdd hd.gK) (se_var (i := 1) rfl (by walk_at "vv")) (se_lst (sa_cons (se_call Fs.f2 hd.gK hr (takes_of rfl rfl rfl rfl) (by walk_at "gl") (sa_cons (se_str [49, 50, 51, 52, 53, 54, 55, 56, 57, 48]) sa_nil)) (sa_cons (se_call Fs.f9 hd.gK hr (takes_of rfl rfl rfl rfl) (by walk_at "gl") (sa_cons (se_var (i := 0) rfl (by walk_at "vv")) sa_nil)) (sa_cons (se_call Fs.f10 hd.gK hr (takes_of rfl rfl rfl rfl) (by walk_at "gl") (sa_cons (se_var (i := 0) rfl (by walk_at "vv")) sa_nil)) (sa_cons (se_call Fs.f11 hd.gK hr (takes_of rfl rfl rfl rfl) (by walk_at "gl") (sa_cons (se_var (i := 0) rfl (by walk_at "vv")) sa_nil)) (sa_cons (se_call Fs.f12 hd.gK hr (takes_of rfl rfl rfl rfl) (by walk_at "gl") (sa_cons (se_var (i := 0) rfl (by walk_at "vv")) sa_nil)) sa_nil))))))))
      (ss_cons (ss_set nd31 rfl (by walk_at "lo") (se_bin (opAdd hd.gK) (se_var (i := 1) rfl (by walk_at "vv")) (se_lst (sa_cons (se_call Fs.f13 hd.gK hr (takes_of rfl rfl rfl rfl) (by walk_at "gl") (sa_cons (se_call Fs.f3 hd.gK hr (takes_of rfl rfl rfl rfl) (by walk_at "gl") (sa_cons (se_str [102, 32, 40, 103, 32, 120, 41, 32, 121]) sa_nil)) sa_nil)) (sa_cons (se_call Fs.f14 hd.gK hr (takes_of rfl rfl rfl rfl) (by walk_at "gl") (sa_cons (se_str [102]) (sa_cons (se_tup (sa_cons (se_str [120]) (sa_cons se_int sa_nil))) sa_nil))) (sa_cons (se_call Fs.f15 hd.gK hr (takes_of rfl rfl rfl rfl) (by walk_at "gl") (sa_cons (se_tup (sa_cons (se_str [97]) (sa_cons (se_str [98]) sa_nil))) (sa_cons (se_str [99]) sa_nil))) (sa_cons (se_callB (callLen hd.gK) (by walk_at "gl") hd.m_len (by rfl) (sa_cons (se_call Fs.f16 hd.gK hr (takes_of rfl rfl rfl rfl) (by walk_at "gl") (sa_cons (se_var (i := 0) rfl (by walk_at "vv")) sa_nil)) sa_nil)) (sa_cons (se_call Fs.f17 hd.gK hr (takes_of rfl rfl rfl rfl) (by walk_at "gl") (sa_cons (se_var (i := 0) rfl (by walk_at "vv")) sa_nil)) (sa_cons (se_call Fs.f17 hd.gK hr (takes_of rfl rfl rfl rfl) (by walk_at "gl") (sa_cons (se_call Fs.f3 hd.gK hr (takes_of rfl rfl rfl rfl) (by walk_at "gl") (sa_cons (se_str [33, 120, 46, 32, 120]) sa_nil)) sa_nil)) (sa_cons (se_call Fs.f18 hd.gK hr (takes_of rfl rfl rfl rfl) (by walk_at "gl") (sa_cons (se_call Fs.f3 hd.gK hr (takes_of rfl rfl rfl rfl) (by walk_at "gl") (sa_cons (se_str [40, 33, 120, 46, 32, 120, 41, 32, 53]) sa_nil)) sa_nil)) (sa_cons (se_call Fs.f8 hd.gK hr (takes_of rfl rfl rfl rfl) (by walk_at "gl") (sa_cons (se_call Fs.f3 hd.gK hr (takes_of rfl rfl rfl rfl) (by walk_at "gl") (sa_cons (se_str [102, 32, 120]) sa_nil)) (sa_cons (se_str [108, 97, 115, 116]) sa_nil))) (sa_cons (se_call Fs.f8 hd.gK hr (takes_of rfl rfl rfl rfl) (by walk_at "gl") (sa_cons (se_call Fs.f3 hd.gK hr (takes_of rfl rfl rfl rfl) (by walk_at "gl") (sa_cons (se_str [33, 120, 46, 32, 120]) sa_nil)) (sa_cons (se_str [102, 105, 114, 115, 116]) sa_nil))) sa_nil))))))))))))
      (ss_cons (ss_set nd31 rfl (by walk_at "lo") (se_bin (opAdd hd.gK) (se_var (i := 1) rfl (by walk_at "vv")) (se_lst (sa_cons (se_call Fs.f4 hd.gK hr (takes_of rfl rfl rfl rfl) (by walk_at "gl") (sa_cons (se_tup (sa_cons (se_str [120]) (sa_cons (se_str [121]) (sa_cons (se_str [41]) sa_nil)))) (sa_cons se_int (sa_cons se_int sa_nil)))) (sa_cons (se_call Fs.f5 hd.gK hr (takes_of rfl rfl rfl rfl) (by walk_at "gl") (sa_cons (se_tup (sa_cons (se_str [40]) (sa_cons (se_str [120]) (sa_cons (se_str [41]) (sa_cons (se_str [121]) sa_nil))))) (sa_cons se_int (sa_cons se_int sa_nil)))) (sa_cons (se_call Fs.f7 hd.gK hr (takes_of rfl rfl rfl rfl) (by walk_at "gl") (sa_cons (se_call Fs.f3 hd.gK hr (takes_of rfl rfl rfl rfl) (by walk_at "gl") (sa_cons (se_str [40, 40, 40, 102, 32, 120, 41, 32, 121, 41, 32, 40, 103, 32, 122, 41, 41]) sa_nil)) sa_nil)) (sa_cons (se_call Fs.f7 hd.gK hr (takes_of rfl rfl rfl rfl) (by walk_at "gl") (sa_cons (se_call Fs.f3 hd.gK hr (takes_of rfl rfl rfl rfl) (by walk_at "gl") (sa_cons (se_str [33, 120, 46, 32, 40, 33, 121, 46, 32, 120, 41, 32, 120]) sa_nil)) sa_nil)) (sa_cons (se_call Fs.f6d1 hd.gK hr (takes_of rfl rfl rfl rfl) (by walk_at "gl") (sa_cons (se_var (i := 0) rfl (by walk_at "vv")) sa_nil)) (sa_cons (se_call Fs.f7 hd.gK hr (takes_of rfl rfl rfl rfl) (by walk_at "gl") (sa_cons se_int sa_nil)) sa_nil)))))))))
      (ss_cons (ss_set nd31 rfl (by walk_at "lo") (se_lst (sa_cons (se_lam 0 (hd.lt 0) hd.tb31 rfl rfl hd.hT31 hd.hu31) (sa_cons (se_lam 1 (hd.lt 1) hd.tb31 rfl rfl hd.hT31 hd.hu31) (sa_cons (se_lam 2 (hd.lt 2) hd.tb31 rfl rfl hd.hT31 hd.hu31) (sa_cons (se_lam 3 (hd.lt 3) hd.tb31 rfl rfl hd.hT31 hd.hu31) (sa_cons (se_lam 4 (hd.lt 4) hd.tb31 rfl rfl hd.hT31 hd.hu31) sa_nil)))))))
      (ss_cons (ss_set nd31 rfl (by walk_at "lo") (se_bin (opAdd hd.gK) (se_var (i := 2) rfl (by walk_at "vv")) (se_lst (sa_cons (se_lam 5 (hd.lt 5) hd.tb31 rfl rfl hd.hT31 hd.hu31) (sa_cons (se_lam 6 (hd.lt 6) hd.tb31 rfl rfl hd.hT31 hd.hu31) (sa_cons (se_lam 7 (hd.lt 7) hd.tb31 rfl rfl hd.hT31 hd.hu31) (sa_cons (se_lam 8 (hd.lt 8) hd.tb31 rfl rfl hd.hT31 hd.hu31) (sa_cons (se_lam 9 (hd.lt 9) hd.tb31 rfl rfl hd.hT31 hd.hu31) sa_nil))))))))
      (ss_cons (ss_set nd31 rfl (by walk_at "lo") (se_bin (opAdd hd.gK) (se_var (i := 2) rfl (by walk_at "vv")) (se_lst (sa_cons (se_lam 10 (hd.lt 10) hd.tb31 rfl rfl hd.hT31 hd.hu31) (sa_cons (se_lam 11 (hd.lt 11) hd.tb31 rfl rfl hd.hT31 hd.hu31) (sa_cons (se_lam 12 (hd.lt 12) hd.tb31 rfl rfl hd.hT31 hd.hu31) (sa_cons (se_lam 13 (hd.lt 13) hd.tb31 rfl rfl hd.hT31 hd.hu31) (sa_cons (se_lam 14 (hd.lt 14) hd.tb31 rfl rfl hd.hT31 hd.hu31) sa_nil))))))))
      (ss_cons (ss_set nd31 rfl (by walk_at "lo") (se_bin (opAdd hd.gK) (se_var (i := 2) rfl (by walk_at "vv")) (se_lst (sa_cons (se_lam 15 (hd.lt 15) hd.tb31 rfl rfl hd.hT31 hd.hu31) (sa_cons (se_lam 16 (hd.lt 16) hd.tb31 rfl rfl hd.hT31 hd.hu31) (sa_cons (se_lam 17 (hd.lt 17) hd.tb31 rfl rfl hd.hT31 hd.hu31) (sa_cons (se_lam 18 (hd.lt 18) hd.tb31 rfl rfl hd.hT31 hd.hu31) sa_nil)))))))
      (ss_cons (ss_if (st_w (sw_or (st_cmp (opNe hd.gK hr.units) (se_lc rfl nd31 (si_enm hd.gK (by walk_at "gl") hd.m_enumerate (sa_cons (se_var (i := 2) rfl (by walk_at "vv")) sa_nil)) (blkOk_by (own := [("k", 4), ("f", 5)]) (by walk_at "blk")) (fun _ _ _ _ _ => (sgc_tup hd.gK rfl (sgc_cons (sgc_name (i := 4) nd31 rfl (by decide) (by walk_at "lo")) (sgc_cons (sgc_name (i := 5) nd31 rfl (by decide) (by walk_at "lo")) sgc_nil)))) (fun _ _ _ _ _ => (sts_one (st_cmp (opNe hd.gK hr.units) (se_call Fs.f22 hd.gK hr takes_F (by walk_at "gl") (sa_cons (se_var (i := 5) rfl (by walk_at "vv")) sa_nil)) (se_str [84, 101, 114, 109, 69, 114, 114, 111, 114])))) (fun _ _ _ _ _ => (se_var (i := 4) rfl (by walk_at "vv")))) (se_lst sa_nil)) (sw_or (st_cmp (opNe hd.gK hr.units) (se_globI (by walk_at "gl") hd.c_MOST_DEEP) se_int) (sw_or1 (st_cmp (opNe hd.gK hr.units) (se_callB (callLen hd.gK) (by walk_at "gl") hd.m_len (by rfl) (sa_cons (se_globS (by walk_at "gl") hd.c_SIGNS_OF_NAMES) sa_nil)) se_int))))) (ss_cons (ss_ret se_bl)
      ss_nil) ss_nil)
      (ss_cons (ss_set nd31 rfl (by walk_at "lo") (se_lst (sa_cons (se_tup (sa_cons (se_str [102, 117, 110]) (sa_cons (se_str [102]) (sa_cons (se_tup (sa_cons (se_str [102, 117, 110]) (sa_cons (se_str [120]) (sa_cons (se_tup (sa_cons (se_str [97, 116]) (sa_cons (se_tup (sa_cons (se_str [97, 116]) (sa_cons (se_str [102]) (sa_cons (se_tup (sa_cons (se_str [97, 116]) (sa_cons (se_str [102]) (sa_cons se_int sa_nil)))) sa_nil)))) (sa_cons (se_tup (sa_cons (se_str [102, 117, 110]) (sa_cons (se_str [121]) (sa_cons (se_tup (sa_cons (se_str [97, 116]) (sa_cons (se_str [121]) (sa_cons (se_str [120, 95]) sa_nil)))) sa_nil)))) sa_nil)))) sa_nil)))) sa_nil)))) (sa_cons (se_str [33, 102, 32, 120, 46, 32, 102, 32, 40, 102, 32, 49, 50, 41, 32, 40, 33, 121, 46, 32, 121, 32, 120, 95, 41]) (sa_cons (se_tup (sa_cons (se_str [33]) (sa_cons (se_str [120]) (sa_cons (se_str [46]) (sa_cons (se_str [40]) (sa_cons (se_str [120]) (sa_cons (se_str [121, 95]) (sa_cons (se_str [41]) sa_nil)))))))) (sa_cons se_bl (sa_cons se_bl (sa_cons se_bl (sa_cons se_bl (sa_cons se_bl (sa_cons se_bl (sa_cons se_bl (sa_cons (se_tup (sa_cons (se_str [120, 95]) sa_nil)) (sa_cons (se_tup (sa_cons (se_str [102]) (sa_cons (se_str [120]) (sa_cons (se_str [121]) (sa_cons (se_str [120, 95]) sa_nil))))) (sa_cons se_int (sa_cons se_int (sa_cons (se_tup (sa_cons (se_str [102]) (sa_cons (se_tup (sa_cons (se_tup (sa_cons (se_str [97, 116]) (sa_cons (se_str [103]) (sa_cons (se_str [120]) sa_nil)))) (sa_cons (se_str [121]) sa_nil))) sa_nil))) (sa_cons (se_tup (sa_cons (se_str [97, 116]) (sa_cons (se_tup (sa_cons (se_str [97, 116]) (sa_cons (se_str [102]) (sa_cons (se_str [120]) sa_nil)))) (sa_cons se_int sa_nil)))) (sa_cons (se_tup (sa_cons (se_str [102, 117, 110]) (sa_cons (se_str [97]) (sa_cons (se_tup (sa_cons (se_str [102, 117, 110]) (sa_cons (se_str [98]) (sa_cons (se_str [99]) sa_nil)))) sa_nil)))) (sa_cons se_int (sa_cons se_bl (sa_cons se_bl (sa_cons (se_tup (sa_cons (se_str [64]) (sa_cons (se_str [32, 32, 33, 120]) (sa_cons (se_str [32, 32, 32, 32, 120]) (sa_cons (se_str [32, 32, 53]) sa_nil))))) (sa_cons (se_str [40, 102, 32, 120, 41]) (sa_cons (se_str [40, 33, 120, 46, 32, 120, 41]) (sa_cons (se_tup (sa_cons (se_tup (sa_cons (se_str [97, 116]) (sa_cons (se_str [120]) (sa_cons (se_str [121]) sa_nil)))) (sa_cons se_int sa_nil))) (sa_cons (se_tup (sa_cons (se_str [120]) (sa_cons se_int sa_nil))) (sa_cons (se_str [102, 32, 120, 32, 121, 32, 40, 103, 32, 122, 41]) (sa_cons (se_str [33, 120, 46, 32, 40, 33, 121, 46, 32, 120, 41, 32, 120]) (sa_cons se_non (sa_cons (se_str [55]) sa_nil)))))))))))))))))))))))))))))))
      (ss_cons (ss_ret (se_cmp (opEq hd.gK hr.units) (se_var (i := 1) rfl (by walk_at "vv")) (se_var (i := 3) rfl (by walk_at "vv"))))
      ss_nil))))))))))))
theorem nd32 : (["script", "dice", "term", "text", "names", "body", "word", "head", "parts", "k"] : List Str).Nodup := by decide +kernel
theorem d32 (hd : Hd K mg base g C_TermError cd tb) (Fs : Fs P w K mg base g c l k) {f : Addr} {A : Around} {outer : List Env} {s : Shared} {H : Hp} {E : XK} (hr : Room k (A.deeper (envOfC "law" (defScope (top 39)) s.heap.objs.size f (.ref (cd 32))))) :
    SSs (cxOf (L2.CX P w) P w K mg base ["script", "dice", "term", "text", "names", "body", "word", "head", "parts", "k"] "law" (defScope (top 39)) f (.ref (cd 32)) A outer s H E) g (fun cls d _ H => E cls d H) (defBody (top 39)) (b32 c l) :=
    (ss_cons (ss_for (passes_of rfl) rfl (si_any hd.gK (se_call Fs.f21 hd.gK hr (takes_of rfl rfl rfl rfl) (by walk_at "gl") (sa_cons (se_var (i := 0) rfl (by walk_at "vv")) (sa_cons se_int sa_nil)))) (sg_name (i := 1) nd32 rfl (by walk_at "lo")) (ss_cons (ss_set nd32 rfl (by walk_at "lo") (se_call Fs.f23 hd.gK hr (takes_of rfl rfl rfl rfl) (by walk_at "gl") (sa_cons (se_var (i := 1) rfl (by walk_at "vv")) (sa_cons se_int (sa_cons (se_lst (sa_cons (se_str [119, 49]) (sa_cons (se_str [118, 95]) sa_nil))) sa_nil)))))
      (ss_cons (ss_set nd32 rfl (by walk_at "lo") (se_call Fs.f7 hd.gK hr (takes_of rfl rfl rfl rfl) (by walk_at "gl") (sa_cons (se_var (i := 2) rfl (by walk_at "vv")) sa_nil)))
      (ss_cons (ss_if (st_w (sw_or (st_cmp (opNe hd.gK hr.units) (se_call Fs.f3 hd.gK hr (takes_of rfl rfl rfl rfl) (by walk_at "gl") (sa_cons (se_call Fs.f24 hd.gK hr (takes_of rfl rfl rfl rfl) (by walk_at "gl") (sa_cons (se_var (i := 2) rfl (by walk_at "vv")) sa_nil)) sa_nil)) (se_var (i := 2) rfl (by walk_at "vv"))) (sw_or (st_cmp (opNe hd.gK hr.units) (se_call Fs.f3 hd.gK hr (takes_of rfl rfl rfl rfl) (by walk_at "gl") (sa_cons (se_var (i := 3) rfl (by walk_at "vv")) sa_nil)) (se_var (i := 2) rfl (by walk_at "vv"))) (sw_or (st_cmp (opNotN) (se_call Fs.f6d1 hd.gK hr (takes_of rfl rfl rfl rfl) (by walk_at "gl") (sa_cons (se_var (i := 2) rfl (by walk_at "vv")) sa_nil)) se_non) (sw_or1 (st_cmp (opNe hd.gK hr.units) (se_callTy (callLst hd.gK rfl) (by walk_at "gl") hd.m_list (by rfl) (sa_cons (se_call Fs.f0 hd.gK hr (takes_of rfl rfl rfl rfl) (by walk_at "gl") (sa_cons (se_call Fs.f24 hd.gK hr (takes_of rfl rfl rfl rfl) (by walk_at "gl") (sa_cons (se_var (i := 2) rfl (by walk_at "vv")) sa_nil)) sa_nil)) sa_nil)) (se_callTy (callLst hd.gK rfl) (by walk_at "gl") hd.m_list (by rfl) (sa_cons (se_call Fs.f0 hd.gK hr (takes_of rfl rfl rfl rfl) (by walk_at "gl") (sa_cons (se_join hd.gK (se_str [32]) (se_call Fs.f0 hd.gK hr (takes_of rfl rfl rfl rfl) (by walk_at "gl") (sa_cons (se_call Fs.f24 hd.gK hr (takes_of rfl rfl rfl rfl) (by walk_at "gl") (sa_cons (se_var (i := 2) rfl (by walk_at "vv")) sa_nil)) sa_nil))) sa_nil)) sa_nil)))))))) (ss_cons (ss_ret se_bl)
      ss_nil) ss_nil)
      (ss_cons (ss_if (st_w (sw_or (st_cmp (opNe hd.gK hr.units) (se_var (i := 3) rfl (by walk_at "vv")) (se_call Fs.f25 hd.gK hr (takes_of rfl rfl rfl rfl) (by walk_at "gl") (sa_cons (se_var (i := 2) rfl (by walk_at "vv")) (sa_cons (se_str [97, 108, 108]) sa_nil)))) (sw_or (st_cmp (opNe hd.gK hr.units) (se_call Fs.f8 hd.gK hr (takes_of rfl rfl rfl rfl) (by walk_at "gl") (sa_cons (se_var (i := 2) rfl (by walk_at "vv")) (sa_cons (se_str [102, 105, 114, 115, 116]) sa_nil))) (se_call Fs.f25 hd.gK hr (takes_of rfl rfl rfl rfl) (by walk_at "gl") (sa_cons (se_var (i := 2) rfl (by walk_at "vv")) (sa_cons (se_str [102, 105, 114, 115, 116]) sa_nil)))) (sw_or1 (st_cmp (opNe hd.gK hr.units) (se_call Fs.f8 hd.gK hr (takes_of rfl rfl rfl rfl) (by walk_at "gl") (sa_cons (se_var (i := 2) rfl (by walk_at "vv")) (sa_cons (se_str [108, 97, 115, 116]) sa_nil))) (se_call Fs.f25 hd.gK hr (takes_of rfl rfl rfl rfl) (by walk_at "gl") (sa_cons (se_var (i := 2) rfl (by walk_at "vv")) (sa_cons (se_str [108, 97, 115, 116]) sa_nil)))))))) (ss_cons (ss_ret se_bl)
      ss_nil) ss_nil)
      (ss_cons (ss_set nd32 rfl (by walk_at "lo") (se_call Fs.f26 hd.gK hr (takes_of rfl rfl rfl rfl) (by walk_at "gl") (sa_cons (se_var (i := 2) rfl (by walk_at "vv")) sa_nil)))
      (ss_cons (ss_if (st_w (sw_or (st_cmp (opNe hd.gK hr.units) (se_callTy (callLst hd.gK rfl) (by walk_at "gl") hd.m_list (by rfl) (sa_cons (se_call Fs.f9 hd.gK hr (takes_of rfl rfl rfl rfl) (by walk_at "gl") (sa_cons (se_var (i := 2) rfl (by walk_at "vv")) sa_nil)) sa_nil)) (se_var (i := 4) rfl (by walk_at "vv"))) (sw_or (st_cmp (opNe hd.gK hr.units) (se_callTy (callLst hd.gK rfl) (by walk_at "gl") hd.m_list (by rfl) (sa_cons (se_call Fs.f10 hd.gK hr (takes_of rfl rfl rfl rfl) (by walk_at "gl") (sa_cons (se_var (i := 2) rfl (by walk_at "vv")) sa_nil)) sa_nil)) (se_call Fs.f27 hd.gK hr (takes_of rfl rfl rfl rfl) (by walk_at "gl") (sa_cons (se_var (i := 2) rfl (by walk_at "vv")) sa_nil))) (sw_or (st_cmp (opNe hd.gK hr.units) (se_callTy (callLst hd.gK rfl) (by walk_at "gl") hd.m_list (by rfl) (sa_cons (se_call Fs.f16 hd.gK hr (takes_of rfl rfl rfl rfl) (by walk_at "gl") (sa_cons (se_var (i := 2) rfl (by walk_at "vv")) sa_nil)) sa_nil)) (se_call Fs.f28 hd.gK hr (takes_of rfl rfl rfl rfl) (by walk_at "gl") (sa_cons (se_var (i := 2) rfl (by walk_at "vv")) sa_nil))) (sw_or (st_cmp (opNe hd.gK hr.units) (se_call Fs.f11 hd.gK hr (takes_of rfl rfl rfl rfl) (by walk_at "gl") (sa_cons (se_var (i := 2) rfl (by walk_at "vv")) sa_nil)) (se_callB (callLen hd.gK) (by walk_at "gl") hd.m_len (by rfl) (sa_cons (se_call Fs.f28 hd.gK hr (takes_of rfl rfl rfl rfl) (by walk_at "gl") (sa_cons (se_var (i := 2) rfl (by walk_at "vv")) sa_nil)) sa_nil))) (sw_or1 (st_cmp (opNe hd.gK hr.units) (se_call Fs.f12 hd.gK hr (takes_of rfl rfl rfl rfl) (by walk_at "gl") (sa_cons (se_var (i := 2) rfl (by walk_at "vv")) sa_nil)) (se_call Fs.f29 hd.gK hr (takes_of rfl rfl rfl rfl) (by walk_at "gl") (sa_cons (se_var (i := 2) rfl (by walk_at "vv")) sa_nil))))))))) (ss_cons (ss_ret se_bl)
      ss_nil) ss_nil)
      (ss_cons (ss_if (st_w (sw_or (st_cmp (opNe hd.gK hr.units) (se_call Fs.f17 hd.gK hr (takes_of rfl rfl rfl rfl) (by walk_at "gl") (sa_cons (se_var (i := 2) rfl (by walk_at "vv")) sa_nil)) (se_cmp (opEq hd.gK hr.units) (se_var (i := 4) rfl (by walk_at "vv")) (se_lst sa_nil))) (sw_or1 (st_cmp (opNe hd.gK hr.units) (se_callTy (callLst hd.gK rfl) (by walk_at "gl") hd.m_list (by rfl) (sa_cons (se_call Fs.f18 hd.gK hr (takes_of rfl rfl rfl rfl) (by walk_at "gl") (sa_cons (se_var (i := 2) rfl (by walk_at "vv")) sa_nil)) sa_nil)) (se_call Fs.f30 hd.gK hr (takes_of rfl rfl rfl rfl) (by walk_at "gl") (sa_cons (se_var (i := 2) rfl (by walk_at "vv")) sa_nil)))))) (ss_cons (ss_ret se_bl)
      ss_nil) ss_nil)
      (ss_cons (ss_par rfl nd32 rfl rfl (by decide) rfl rfl (sa_cons (se_var (i := 2) rfl (by walk_at "vv")) (sa_cons (se_lst sa_nil) sa_nil)) rfl)
      (ss_cons (ss_while 100000 (passes_of rfl) (st_w (sw_and (st_tru hd.gK (se_is1 "tuple" hd.gK (by decide) (by walk_at "gl") hd.m_isinstance (by walk_at "gl") hd.m_tuple (by rfl) (by decide) (se_var (i := 7) rfl (by walk_at "vv")))) (sw_and1 (st_cmp (opEq hd.gK hr.units) (se_ix hd.gK (se_var (i := 7) rfl (by walk_at "vv")) se_int) (se_str [97, 116]))))) (ss_cons (ss_par rfl nd32 rfl rfl (by decide) rfl rfl (sa_cons (se_ix hd.gK (se_var (i := 7) rfl (by walk_at "vv")) se_int) (sa_cons (se_bin (opAdd hd.gK) (se_lst (sa_cons (se_ix hd.gK (se_var (i := 7) rfl (by walk_at "vv")) se_int) sa_nil)) (se_var (i := 8) rfl (by walk_at "vv"))) sa_nil)) rfl)
      ss_nil))
      (ss_cons (ss_if (st_w (sw_or (st_cmp (opNe hd.gK hr.units) (se_call Fs.f13 hd.gK hr (takes_of rfl rfl rfl rfl) (by walk_at "gl") (sa_cons (se_var (i := 2) rfl (by walk_at "vv")) sa_nil)) (se_tup (sa_cons (se_var (i := 7) rfl (by walk_at "vv")) (sa_cons (se_callTy (callTup2 hd.gK rfl) (by walk_at "gl") hd.m_tuple (by rfl) (sa_cons (se_var (i := 8) rfl (by walk_at "vv")) sa_nil)) sa_nil)))) (sw_or1 (st_cmp (opNe hd.gK hr.units) (se_call Fs.f14 hd.gK hr (takes_of rfl rfl rfl rfl) (by walk_at "gl") (sa_cons (se_var (i := 7) rfl (by walk_at "vv")) (sa_cons (se_var (i := 8) rfl (by walk_at "vv")) sa_nil))) (se_var (i := 2) rfl (by walk_at "vv")))))) (ss_cons (ss_ret se_bl)
      ss_nil) ss_nil)
      (ss_cons (ss_set nd32 rfl (by walk_at "lo") (se_call Fs.f15 hd.gK hr (takes_of rfl rfl rfl rfl) (by walk_at "gl") (sa_cons (se_tup (sa_cons (se_str [97]) (sa_cons (se_str [98]) (sa_cons (se_str [99]) sa_nil)))) (sa_cons (se_var (i := 2) rfl (by walk_at "vv")) sa_nil))))
      (ss_cons (ss_if (st_w (sw_or (st_cmp (opNe hd.gK hr.units) (se_var (i := 5) rfl (by walk_at "vv")) (se_tup (sa_cons (se_str [102, 117, 110]) (sa_cons (se_str [97]) (sa_cons (se_tup (sa_cons (se_str [102, 117, 110]) (sa_cons (se_str [98]) (sa_cons (se_tup (sa_cons (se_str [102, 117, 110]) (sa_cons (se_str [99]) (sa_cons (se_var (i := 2) rfl (by walk_at "vv")) sa_nil)))) sa_nil)))) sa_nil))))) (sw_or1 (st_cmp (opNe hd.gK hr.units) (se_call Fs.f14 hd.gK hr (takes_of rfl rfl rfl rfl) (by walk_at "gl") (sa_cons (se_var (i := 2) rfl (by walk_at "vv")) (sa_cons (se_tup (sa_cons (se_str [120]) (sa_cons se_int sa_nil))) sa_nil))) (se_tup (sa_cons (se_str [97, 116]) (sa_cons (se_tup (sa_cons (se_str [97, 116]) (sa_cons (se_var (i := 2) rfl (by walk_at "vv")) (sa_cons (se_str [120]) sa_nil)))) (sa_cons se_int sa_nil)))))))) (ss_cons (ss_ret se_bl)
      ss_nil) ss_nil)
      (ss_cons (ss_set nd32 rfl (by walk_at "lo") (se_join hd.gK (se_str []) (se_lc rfl nd32 (si_rg1 (by walk_at "gl") hd.m_range (sa_cons (se_call Fs.f20 hd.gK hr (takes_of rfl rfl rfl rfl) (by walk_at "gl") (sa_cons (se_var (i := 1) rfl (by walk_at "vv")) (sa_cons se_int sa_nil))) sa_nil)) (blkOk_by (own := [("k", 9)]) (by walk_at "blk")) (fun _ _ _ _ _ => (sgc_name (i := 9) nd32 rfl (by decide) (by walk_at "lo"))) (fun _ _ _ _ _ => sts_nil) (fun _ _ _ _ _ => (se_ix hd.gK (se_str [97, 49, 95, 90]) (se_call Fs.f20 hd.gK hr takes_F (by walk_at "gl") (sa_cons (se_var (i := 1) rfl (by walk_at "vv")) (sa_cons se_int sa_nil))))))))
      (ss_cons (ss_if (st_cmp (opNe hd.gK hr.units) (se_call Fs.f1 hd.gK hr (takes_of rfl rfl rfl rfl) (by walk_at "gl") (sa_cons (se_var (i := 6) rfl (by walk_at "vv")) sa_nil)) (se_and hd.gK (se_cmp (opNe hd.gK hr.units) (se_var (i := 6) rfl (by walk_at "vv")) (se_str [])) (se_one (se_cmp (opIn hd.gK) (se_ix hd.gK (se_var (i := 6) rfl (by walk_at "vv")) se_int) (se_str [97, 95, 90]))))) (ss_cons (ss_ret se_bl)
      ss_nil) ss_nil)
      ss_nil)))))))))))))))
      (ss_cons (ss_ret (se_call0 Fs.f31 hd.gK hr (takes_of rfl rfl rfl rfl) (by walk_at "gl")))
      ss_nil))
theorem l0 (hd : Hd K mg base g C_TermError cd tb) (Fs : FsF P w K mg base g c k) : LamOk P w K mg base g k 0 (fun S => lam0 c [] S) := by
  unfold LamOk
  rw [hd.lt 0]
  refine ⟨⟨rfl, rfl, rfl, by decide +kernel⟩, fun _ _ _ => rfl, fun A outer s H E f c' hr tk => ?_⟩
  have h : SE (lamX P w K mg base (ltK 0) f c' A outer s H E) g (fun cls d _ H => E cls d H) (ltK 0).body (lam0 c) := (se_call Fs.f3 hd.gK hr tk (by walk_at "gl") (sa_cons (se_str []) sa_nil))
  exact h
theorem l1 (hd : Hd K mg base g C_TermError cd tb) (Fs : FsF P w K mg base g c k) : LamOk P w K mg base g k 1 (fun S => lam1 c [] S) := by
  unfold LamOk
  rw [hd.lt 1]
  refine ⟨⟨rfl, rfl, rfl, by decide +kernel⟩, fun _ _ _ => rfl, fun A outer s H E f c' hr tk => ?_⟩
  have h : SE (lamX P w K mg base (ltK 1) f c' A outer s H E) g (fun cls d _ H => E cls d H) (ltK 1).body (lam1 c) := (se_call Fs.f3 hd.gK hr tk (by walk_at "gl") (sa_cons (se_str [40]) sa_nil))
  exact h
theorem l2 (hd : Hd K mg base g C_TermError cd tb) (Fs : FsF P w K mg base g c k) : LamOk P w K mg base g k 2 (fun S => lam2 c [] S) := by
  unfold LamOk
  rw [hd.lt 2]
  refine ⟨⟨rfl, rfl, rfl, by decide +kernel⟩, fun _ _ _ => rfl, fun A outer s H E f c' hr tk => ?_⟩
  have h : SE (lamX P w K mg base (ltK 2) f c' A outer s H E) g (fun cls d _ H => E cls d H) (ltK 2).body (lam2 c) := (se_call Fs.f3 hd.gK hr tk (by walk_at "gl") (sa_cons (se_str [120, 41]) sa_nil))
  exact h
theorem l3 (hd : Hd K mg base g C_TermError cd tb) (Fs : FsF P w K mg base g c k) : LamOk P w K mg base g k 3 (fun S => lam3 c [] S) := by
  unfold LamOk
  rw [hd.lt 3]
  refine ⟨⟨rfl, rfl, rfl, by decide +kernel⟩, fun _ _ _ => rfl, fun A outer s H E f c' hr tk => ?_⟩
  have h : SE (lamX P w K mg base (ltK 3) f c' A outer s H E) g (fun cls d _ H => E cls d H) (ltK 3).body (lam3 c) := (se_call Fs.f3 hd.gK hr tk (by walk_at "gl") (sa_cons (se_str [40, 41]) sa_nil))
  exact h
theorem l4 (hd : Hd K mg base g C_TermError cd tb) (Fs : FsF P w K mg base g c k) : LamOk P w K mg base g k 4 (fun S => lam4 c [] S) := by
  unfold LamOk
  rw [hd.lt 4]
  refine ⟨⟨rfl, rfl, rfl, by decide +kernel⟩, fun _ _ _ => rfl, fun A outer s H E f c' hr tk => ?_⟩
  have h : SE (lamX P w K mg base (ltK 4) f c' A outer s H E) g (fun cls d _ H => E cls d H) (ltK 4).body (lam4 c) := (se_call Fs.f3 hd.gK hr tk (by walk_at "gl") (sa_cons (se_str [33, 46, 32, 120]) sa_nil))
  exact h
theorem l5 (hd : Hd K mg base g C_TermError cd tb) (Fs : FsF P w K mg base g c k) : LamOk P w K mg base g k 5 (fun S => lam5 c [] S) := by
  unfold LamOk
  rw [hd.lt 5]
  refine ⟨⟨rfl, rfl, rfl, by decide +kernel⟩, fun _ _ _ => rfl, fun A outer s H E f c' hr tk => ?_⟩
  have h : SE (lamX P w K mg base (ltK 5) f c' A outer s H E) g (fun cls d _ H => E cls d H) (ltK 5).body (lam5 c) := (se_call Fs.f3 hd.gK hr tk (by walk_at "gl") (sa_cons (se_str [33, 120, 32, 120]) sa_nil))
  exact h
theorem l6 (hd : Hd K mg base g C_TermError cd tb) (Fs : FsF P w K mg base g c k) : LamOk P w K mg base g k 6 (fun S => lam6 c [] S) := by
  unfold LamOk
  rw [hd.lt 6]
  refine ⟨⟨rfl, rfl, rfl, by decide +kernel⟩, fun _ _ _ => rfl, fun A outer s H E f c' hr tk => ?_⟩
  have h : SE (lamX P w K mg base (ltK 6) f c' A outer s H E) g (fun cls d _ H => E cls d H) (ltK 6).body (lam6 c) := (se_call Fs.f3 hd.gK hr tk (by walk_at "gl") (sa_cons (se_str [33, 120, 46]) sa_nil))
  exact h
theorem l7 (hd : Hd K mg base g C_TermError cd tb) (Fs : FsF P w K mg base g c k) : LamOk P w K mg base g k 7 (fun S => lam7 c [] S) := by
  unfold LamOk
  rw [hd.lt 7]
  refine ⟨⟨rfl, rfl, rfl, by decide +kernel⟩, fun _ _ _ => rfl, fun A outer s H E f c' hr tk => ?_⟩
  have h : SE (lamX P w K mg base (ltK 7) f c' A outer s H E) g (fun cls d _ H => E cls d H) (ltK 7).body (lam7 c) := (se_call Fs.f3 hd.gK hr tk (by walk_at "gl") (sa_cons (se_str [120, 32, 46, 32, 121]) sa_nil))
  exact h
theorem l8 (hd : Hd K mg base g C_TermError cd tb) (Fs : FsF P w K mg base g c k) : LamOk P w K mg base g k 8 (fun S => lam8 c [] S) := by
  unfold LamOk
  rw [hd.lt 8]
  refine ⟨⟨rfl, rfl, rfl, by decide +kernel⟩, fun _ _ _ => rfl, fun A outer s H E f c' hr tk => ?_⟩
  have h : SE (lamX P w K mg base (ltK 8) f c' A outer s H E) g (fun cls d _ H => E cls d H) (ltK 8).body (lam8 c) := (se_call Fs.f3 hd.gK hr tk (by walk_at "gl") (sa_cons (se_str [48, 49]) sa_nil))
  exact h
theorem l9 (hd : Hd K mg base g C_TermError cd tb) (Fs : FsF P w K mg base g c k) : LamOk P w K mg base g k 9 (fun S => lam9 c [] S) := by
  unfold LamOk
  rw [hd.lt 9]
  refine ⟨⟨rfl, rfl, rfl, by decide +kernel⟩, fun _ _ _ => rfl, fun A outer s H E f c' hr tk => ?_⟩
  have h : SE (lamX P w K mg base (ltK 9) f c' A outer s H E) g (fun cls d _ H => E cls d H) (ltK 9).body (lam9 c) := (se_call Fs.f3 hd.gK hr tk (by walk_at "gl") (sa_cons (se_str [120, 32, 43, 32, 121]) sa_nil))
  exact h
theorem l10 (hd : Hd K mg base g C_TermError cd tb) (Fs : FsF P w K mg base g c k) : LamOk P w K mg base g k 10 (fun S => lam10 c [] S) := by
  unfold LamOk
  rw [hd.lt 10]
  refine ⟨⟨rfl, rfl, rfl, by decide +kernel⟩, fun _ _ _ => rfl, fun A outer s H E f c' hr tk => ?_⟩
  have h : SE (lamX P w K mg base (ltK 10) f c' A outer s H E) g (fun cls d _ H => E cls d H) (ltK 10).body (lam10 c) := (se_call Fs.f3 hd.gK hr tk (by walk_at "gl") (sa_cons (se_bin (opAdd hd.gK) (se_bin (opAdd hd.gK) (se_bin (opMul) (se_str [40]) se_int) (se_str [120])) (se_bin (opMul) (se_str [41]) se_int)) sa_nil))
  exact h
theorem l11 (hd : Hd K mg base g C_TermError cd tb) (Fs : FsF P w K mg base g c k) : LamOk P w K mg base g k 11 (fun S => lam11 c [] S) := by
  unfold LamOk
  rw [hd.lt 11]
  refine ⟨⟨rfl, rfl, rfl, by decide +kernel⟩, fun _ _ _ => rfl, fun A outer s H E f c' hr tk => ?_⟩
  have h : SE (lamX P w K mg base (ltK 11) f c' A outer s H E) g (fun cls d _ H => E cls d H) (ltK 11).body (lam11 c) := (se_call Fs.f3 hd.gK hr tk (by walk_at "gl") (sa_cons (se_str [33, 49, 46, 32, 120]) sa_nil))
  exact h
theorem l12 (hd : Hd K mg base g C_TermError cd tb) (Fs : FsF P w K mg base g c k) : LamOk P w K mg base g k 12 (fun S => lam12 c [] S) := by
  unfold LamOk
  rw [hd.lt 12]
  refine ⟨⟨rfl, rfl, rfl, by decide +kernel⟩, fun _ _ _ => rfl, fun A outer s H E f c' hr tk => ?_⟩
  have h : SE (lamX P w K mg base (ltK 12) f c' A outer s H E) g (fun cls d _ H => E cls d H) (ltK 12).body (lam12 c) := (se_call Fs.f0 hd.gK hr tk (by walk_at "gl") (sa_cons (se_str [97, 63]) sa_nil))
  exact h
theorem l13 (hd : Hd K mg base g C_TermError cd tb) (Fs : FsF P w K mg base g c k) : LamOk P w K mg base g k 13 (fun S => lam13 c [] S) := by
  unfold LamOk
  rw [hd.lt 13]
  refine ⟨⟨rfl, rfl, rfl, by decide +kernel⟩, fun _ _ _ => rfl, fun A outer s H E f c' hr tk => ?_⟩
  have h : SE (lamX P w K mg base (ltK 13) f c' A outer s H E) g (fun cls d _ H => E cls d H) (ltK 13).body (lam13 c) := (se_call Fs.f6d1 hd.gK hr tk (by walk_at "gl") (sa_cons (se_str []) sa_nil))
  exact h
theorem l14 (hd : Hd K mg base g C_TermError cd tb) (Fs : FsF P w K mg base g c k) : LamOk P w K mg base g k 14 (fun S => lam14 c [] S) := by
  unfold LamOk
  rw [hd.lt 14]
  refine ⟨⟨rfl, rfl, rfl, by decide +kernel⟩, fun _ _ _ => rfl, fun A outer s H E f c' hr tk => ?_⟩
  have h : SE (lamX P w K mg base (ltK 14) f c' A outer s H E) g (fun cls d _ H => E cls d H) (ltK 14).body (lam14 c) := (se_call Fs.f6d1 hd.gK hr tk (by walk_at "gl") (sa_cons se_neg sa_nil))
  exact h
theorem l15 (hd : Hd K mg base g C_TermError cd tb) (Fs : FsF P w K mg base g c k) : LamOk P w K mg base g k 15 (fun S => lam15 c [] S) := by
  unfold LamOk
  rw [hd.lt 15]
  refine ⟨⟨rfl, rfl, rfl, by decide +kernel⟩, fun _ _ _ => rfl, fun A outer s H E f c' hr tk => ?_⟩
  have h : SE (lamX P w K mg base (ltK 15) f c' A outer s H E) g (fun cls d _ H => E cls d H) (ltK 15).body (lam15 c) := (se_call Fs.f6d1 hd.gK hr tk (by walk_at "gl") (sa_cons (se_tup (sa_cons (se_str [102, 117, 110]) (sa_cons (se_str [49]) (sa_cons (se_str [120]) sa_nil)))) sa_nil))
  exact h
theorem l16 (hd : Hd K mg base g C_TermError cd tb) (Fs : FsF P w K mg base g c k) : LamOk P w K mg base g k 16 (fun S => lam16 c [] S) := by
  unfold LamOk
  rw [hd.lt 16]
  refine ⟨⟨rfl, rfl, rfl, by decide +kernel⟩, fun _ _ _ => rfl, fun A outer s H E f c' hr tk => ?_⟩
  have h : SE (lamX P w K mg base (ltK 16) f c' A outer s H E) g (fun cls d _ H => E cls d H) (ltK 16).body (lam16 c) := (se_call Fs.f6d1 hd.gK hr tk (by walk_at "gl") (sa_cons (se_tup (sa_cons (se_str [97, 116]) (sa_cons (se_str [120]) sa_nil))) sa_nil))
  exact h
theorem l17 (hd : Hd K mg base g C_TermError cd tb) (Fs : FsF P w K mg base g c k) : LamOk P w K mg base g k 17 (fun S => lam17 c [] S) := by
  unfold LamOk
  rw [hd.lt 17]
  refine ⟨⟨rfl, rfl, rfl, by decide +kernel⟩, fun _ _ _ => rfl, fun A outer s H E f c' hr tk => ?_⟩
  have h : SE (lamX P w K mg base (ltK 17) f c' A outer s H E) g (fun cls d _ H => E cls d H) (ltK 17).body (lam17 c) := (se_call Fs.f6d1 hd.gK hr tk (by walk_at "gl") (sa_cons (se_tup (sa_cons (se_str [111, 100, 100]) (sa_cons (se_str [120]) (sa_cons (se_str [121]) sa_nil)))) sa_nil))
  exact h
theorem l18 (hd : Hd K mg base g C_TermError cd tb) (Fs : FsF P w K mg base g c k) : LamOk P w K mg base g k 18 (fun S => lam18 c [] S) := by
  unfold LamOk
  rw [hd.lt 18]
  refine ⟨⟨rfl, rfl, rfl, by decide +kernel⟩, fun _ _ _ => rfl, fun A outer s H E f c' hr tk => ?_⟩
  have h : SE (lamX P w K mg base (ltK 18) f c' A outer s H E) g (fun cls d _ H => E cls d H) (ltK 18).body (lam18 c) := (se_call Fs.f5 hd.gK hr tk (by walk_at "gl") (sa_cons (se_tup sa_nil) (sa_cons se_int (sa_cons se_int sa_nil))))
  exact h
theorem lamAll (hd : Hd K mg base g C_TermError cd tb) (Fs : FsF P w K mg base g c k) : ∀ j fn, lamF c j = some fn → LamOk P w K mg base g k j fn := by
  intro j fn h
  match j, h with
  | 0, h => cases h; exact l0 hd Fs
  | 1, h => cases h; exact l1 hd Fs
  | 2, h => cases h; exact l2 hd Fs
  | 3, h => cases h; exact l3 hd Fs
  | 4, h => cases h; exact l4 hd Fs
  | 5, h => cases h; exact l5 hd Fs
  | 6, h => cases h; exact l6 hd Fs
  | 7, h => cases h; exact l7 hd Fs
  | 8, h => cases h; exact l8 hd Fs
  | 9, h => cases h; exact l9 hd Fs
  | 10, h => cases h; exact l10 hd Fs
  | 11, h => cases h; exact l11 hd Fs
  | 12, h => cases h; exact l12 hd Fs
  | 13, h => cases h; exact l13 hd Fs
  | 14, h => cases h; exact l14 hd Fs
  | 15, h => cases h; exact l15 hd Fs
  | 16, h => cases h; exact l16 hd Fs
  | 17, h => cases h; exact l17 hd Fs
  | 18, h => cases h; exact l18 hd Fs
  | n + 19, h => cases h
def bLaw (c : Oracle) (l : LamV) : SF := (sSeq (sFor (iOf (eCall c 21 2 [] (eCons (eVar 0) (eCons (eC (.int 1)) eNil)))) (tgN 1) (sSeq (sAsg (eCall c 23 3 [] (eCons (eVar 1) (eCons (eC (.int 5)) (eCons (eLst (eCons (eC (.str [119, 49])) (eCons (eC (.str [118, 95])) eNil))) eNil)))) (tgN 2)) (sSeq (sAsg (eCall c 7 1 [] (eCons (eVar 2) eNil)) (tgN 3)) (sSeq (sIf (bOr (bCmp neP (eCall c 3 1 [] (eCons (eCall c 24 1 [] (eCons (eVar 2) eNil)) eNil)) (eVar 2)) (bOr (bCmp neP (eCall c 3 1 [] (eCons (eVar 3) eNil)) (eVar 2)) (bOr (bCmp notNP (eCall c 6 2 [(.int 0)] (eCons (eVar 2) eNil)) (eC .non)) (bCmp neP (eCl lstP (eCons (eCall c 0 1 [] (eCons (eCall c 24 1 [] (eCons (eVar 2) eNil)) eNil)) eNil)) (eCl lstP (eCons (eCall c 0 1 [] (eCons (eM1 joinP (eC (.str [32])) (eCall c 0 1 [] (eCons (eCall c 24 1 [] (eCons (eVar 2) eNil)) eNil))) eNil)) eNil)))))) (sSeq (sRet (eC (.bl false))) sNil) sNil) (sSeq (sIf (bOr (bCmp neP (eVar 3) (eCall c 25 2 [] (eCons (eVar 2) (eCons (eC (.str [97, 108, 108])) eNil)))) (bOr (bCmp neP (eCall c 8 2 [] (eCons (eVar 2) (eCons (eC (.str [102, 105, 114, 115, 116])) eNil))) (eCall c 25 2 [] (eCons (eVar 2) (eCons (eC (.str [102, 105, 114, 115, 116])) eNil)))) (bCmp neP (eCall c 8 2 [] (eCons (eVar 2) (eCons (eC (.str [108, 97, 115, 116])) eNil))) (eCall c 25 2 [] (eCons (eVar 2) (eCons (eC (.str [108, 97, 115, 116])) eNil)))))) (sSeq (sRet (eC (.bl false))) sNil) sNil) (sSeq (sAsg (eCall c 26 1 [] (eCons (eVar 2) eNil)) (tgN 4)) (sSeq (sIf (bOr (bCmp neP (eCl lstP (eCons (eCall c 9 1 [] (eCons (eVar 2) eNil)) eNil)) (eVar 4)) (bOr (bCmp neP (eCl lstP (eCons (eCall c 10 1 [] (eCons (eVar 2) eNil)) eNil)) (eCall c 27 1 [] (eCons (eVar 2) eNil))) (bOr (bCmp neP (eCl lstP (eCons (eCall c 16 1 [] (eCons (eVar 2) eNil)) eNil)) (eCall c 28 1 [] (eCons (eVar 2) eNil))) (bOr (bCmp neP (eCall c 11 1 [] (eCons (eVar 2) eNil)) (eCl lenP (eCons (eCall c 28 1 [] (eCons (eVar 2) eNil)) eNil))) (bCmp neP (eCall c 12 1 [] (eCons (eVar 2) eNil)) (eCall c 29 1 [] (eCons (eVar 2) eNil))))))) (sSeq (sRet (eC (.bl false))) sNil) sNil) (sSeq (sIf (bOr (bCmp neP (eCall c 17 1 [] (eCons (eVar 2) eNil)) (eBin eqP (eVar 4) (eLst eNil))) (bCmp neP (eCl lstP (eCons (eCall c 18 1 [] (eCons (eVar 2) eNil)) eNil)) (eCall c 30 1 [] (eCons (eVar 2) eNil)))) (sSeq (sRet (eC (.bl false))) sNil) sNil) (sSeq (sPar 7 8 (eCons (eVar 2) (eCons (eLst eNil) eNil))) (sSeq (whL (bAnd (bTru (eIs ["tuple"] (eVar 7))) (bCmp eqP (eBin ixP (eVar 7) (eC (.int 0))) (eC (.str [97, 116])))) (sSeq (sPar 7 8 (eCons (eBin ixP (eVar 7) (eC (.int 1))) (eCons (eBin addP (eLst (eCons (eBin ixP (eVar 7) (eC (.int 2))) eNil)) (eVar 8)) eNil))) sNil) 100000) (sSeq (sIf (bOr (bCmp neP (eCall c 13 1 [] (eCons (eVar 2) eNil)) (eTup (eCons (eVar 7) (eCons (eCl tupP2 (eCons (eVar 8) eNil)) eNil)))) (bCmp neP (eCall c 14 2 [] (eCons (eVar 7) (eCons (eVar 8) eNil))) (eVar 2))) (sSeq (sRet (eC (.bl false))) sNil) sNil) (sSeq (sAsg (eCall c 15 2 [] (eCons (eTup (eCons (eC (.str [97])) (eCons (eC (.str [98])) (eCons (eC (.str [99])) eNil)))) (eCons (eVar 2) eNil))) (tgN 5)) (sSeq (sIf (bOr (bCmp neP (eVar 5) (eTup (eCons (eC (.str [102, 117, 110])) (eCons (eC (.str [97])) (eCons (eTup (eCons (eC (.str [102, 117, 110])) (eCons (eC (.str [98])) (eCons (eTup (eCons (eC (.str [102, 117, 110])) (eCons (eC (.str [99])) (eCons (eVar 2) eNil)))) eNil)))) eNil))))) (bCmp neP (eCall c 14 2 [] (eCons (eVar 2) (eCons (eTup (eCons (eC (.str [120])) (eCons (eC (.int 1)) eNil))) eNil))) (eTup (eCons (eC (.str [97, 116])) (eCons (eTup (eCons (eC (.str [97, 116])) (eCons (eVar 2) (eCons (eC (.str [120])) eNil)))) (eCons (eC (.int 1)) eNil)))))) (sSeq (sRet (eC (.bl false))) sNil) sNil) (sSeq (sAsg (eM1 joinP (eC (.str [])) (eLc (iRg1 (eCons (eCall c 20 2 [] (eCons (eVar 1) (eCons (eC (.int 4)) eNil))) eNil)) (tgN 9) bYes (eBin ixP (eC (.str [97, 49, 95, 90])) (eCall c 20 2 [] (eCons (eVar 1) (eCons (eC (.int 4)) eNil)))) [9])) (tgN 6)) (sSeq (sIf (bCmp neP (eCall c 1 1 [] (eCons (eVar 6) eNil)) (eAnd (eBin neP (eVar 6) (eC (.str []))) (eBin (inP false) (eBin ixP (eVar 6) (eC (.int 0))) (eC (.str [97, 95, 90]))))) (sSeq (sRet (eC (.bl false))) sNil) sNil) sNil))))))))))))))) sNil)
def eLaw (c : Oracle) (l : LamV) : EF := (eCall c 31 0 [] eNil)
theorem dLaw (hd : Hd K mg base g C_TermError cd tb) (Fs : Fs P w K mg base g c l k) {f : Addr} {A : Around} {outer : List Env} {s : Shared} {H : Hp} {E : XK} (hr : Room k (A.deeper (envOfC "law" (defScope (top 39)) s.heap.objs.size f (.ref (cd 32))))) :
    PSs (cxOf (L2.CX P w) P w K mg base ["script", "dice", "term", "text", "names", "body", "word", "head", "parts", "k"] "law" (defScope (top 39)) f (.ref (cd 32)) A outer s H E) (defBody (top 39)) (tFin g (fun cls d _ H => E cls d H) (bLaw c l) (eLaw c l)) :=
    (ss_finC (ss_for (passes_of rfl) rfl (si_any hd.gK (se_call Fs.f21 hd.gK hr (takes_of rfl rfl rfl rfl) (by walk_at "gl") (sa_cons (se_var (i := 0) rfl (by walk_at "vv")) (sa_cons se_int sa_nil)))) (sg_name (i := 1) nd32 rfl (by walk_at "lo")) (ss_cons (ss_set nd32 rfl (by walk_at "lo") (se_call Fs.f23 hd.gK hr (takes_of rfl rfl rfl rfl) (by walk_at "gl") (sa_cons (se_var (i := 1) rfl (by walk_at "vv")) (sa_cons se_int (sa_cons (se_lst (sa_cons (se_str [119, 49]) (sa_cons (se_str [118, 95]) sa_nil))) sa_nil)))))
      (ss_cons (ss_set nd32 rfl (by walk_at "lo") (se_call Fs.f7 hd.gK hr (takes_of rfl rfl rfl rfl) (by walk_at "gl") (sa_cons (se_var (i := 2) rfl (by walk_at "vv")) sa_nil)))
      (ss_cons (ss_if (st_w (sw_or (st_cmp (opNe hd.gK hr.units) (se_call Fs.f3 hd.gK hr (takes_of rfl rfl rfl rfl) (by walk_at "gl") (sa_cons (se_call Fs.f24 hd.gK hr (takes_of rfl rfl rfl rfl) (by walk_at "gl") (sa_cons (se_var (i := 2) rfl (by walk_at "vv")) sa_nil)) sa_nil)) (se_var (i := 2) rfl (by walk_at "vv"))) (sw_or (st_cmp (opNe hd.gK hr.units) (se_call Fs.f3 hd.gK hr (takes_of rfl rfl rfl rfl) (by walk_at "gl") (sa_cons (se_var (i := 3) rfl (by walk_at "vv")) sa_nil)) (se_var (i := 2) rfl (by walk_at "vv"))) (sw_or (st_cmp (opNotN) (se_call Fs.f6d1 hd.gK hr (takes_of rfl rfl rfl rfl) (by walk_at "gl") (sa_cons (se_var (i := 2) rfl (by walk_at "vv")) sa_nil)) se_non) (sw_or1 (st_cmp (opNe hd.gK hr.units) (se_callTy (callLst hd.gK rfl) (by walk_at "gl") hd.m_list (by rfl) (sa_cons (se_call Fs.f0 hd.gK hr (takes_of rfl rfl rfl rfl) (by walk_at "gl") (sa_cons (se_call Fs.f24 hd.gK hr (takes_of rfl rfl rfl rfl) (by walk_at "gl") (sa_cons (se_var (i := 2) rfl (by walk_at "vv")) sa_nil)) sa_nil)) sa_nil)) (se_callTy (callLst hd.gK rfl) (by walk_at "gl") hd.m_list (by rfl) (sa_cons (se_call Fs.f0 hd.gK hr (takes_of rfl rfl rfl rfl) (by walk_at "gl") (sa_cons (se_join hd.gK (se_str [32]) (se_call Fs.f0 hd.gK hr (takes_of rfl rfl rfl rfl) (by walk_at "gl") (sa_cons (se_call Fs.f24 hd.gK hr (takes_of rfl rfl rfl rfl) (by walk_at "gl") (sa_cons (se_var (i := 2) rfl (by walk_at "vv")) sa_nil)) sa_nil))) sa_nil)) sa_nil)))))))) (ss_cons (ss_ret se_bl)
      ss_nil) ss_nil)
      (ss_cons (ss_if (st_w (sw_or (st_cmp (opNe hd.gK hr.units) (se_var (i := 3) rfl (by walk_at "vv")) (se_call Fs.f25 hd.gK hr (takes_of rfl rfl rfl rfl) (by walk_at "gl") (sa_cons (se_var (i := 2) rfl (by walk_at "vv")) (sa_cons (se_str [97, 108, 108]) sa_nil)))) (sw_or (st_cmp (opNe hd.gK hr.units) (se_call Fs.f8 hd.gK hr (takes_of rfl rfl rfl rfl) (by walk_at "gl") (sa_cons (se_var (i := 2) rfl (by walk_at "vv")) (sa_cons (se_str [102, 105, 114, 115, 116]) sa_nil))) (se_call Fs.f25 hd.gK hr (takes_of rfl rfl rfl rfl) (by walk_at "gl") (sa_cons (se_var (i := 2) rfl (by walk_at "vv")) (sa_cons (se_str [102, 105, 114, 115, 116]) sa_nil)))) (sw_or1 (st_cmp (opNe hd.gK hr.units) (se_call Fs.f8 hd.gK hr (takes_of rfl rfl rfl rfl) (by walk_at "gl") (sa_cons (se_var (i := 2) rfl (by walk_at "vv")) (sa_cons (se_str [108, 97, 115, 116]) sa_nil))) (se_call Fs.f25 hd.gK hr (takes_of rfl rfl rfl rfl) (by walk_at "gl") (sa_cons (se_var (i := 2) rfl (by walk_at "vv")) (sa_cons (se_str [108, 97, 115, 116]) sa_nil)))))))) (ss_cons (ss_ret se_bl)
      ss_nil) ss_nil)
      (ss_cons (ss_set nd32 rfl (by walk_at "lo") (se_call Fs.f26 hd.gK hr (takes_of rfl rfl rfl rfl) (by walk_at "gl") (sa_cons (se_var (i := 2) rfl (by walk_at "vv")) sa_nil)))
      (ss_cons (ss_if (st_w (sw_or (st_cmp (opNe hd.gK hr.units) (se_callTy (callLst hd.gK rfl) (by walk_at "gl") hd.m_list (by rfl) (sa_cons (se_call Fs.f9 hd.gK hr (takes_of rfl rfl rfl rfl) (by walk_at "gl") (sa_cons (se_var (i := 2) rfl (by walk_at "vv")) sa_nil)) sa_nil)) (se_var (i := 4) rfl (by walk_at "vv"))) (sw_or (st_cmp (opNe hd.gK hr.units) (se_callTy (callLst hd.gK rfl) (by walk_at "gl") hd.m_list (by rfl) (sa_cons (se_call Fs.f10 hd.gK hr (takes_of rfl rfl rfl rfl) (by walk_at "gl") (sa_cons (se_var (i := 2) rfl (by walk_at "vv")) sa_nil)) sa_nil)) (se_call Fs.f27 hd.gK hr (takes_of rfl rfl rfl rfl) (by walk_at "gl") (sa_cons (se_var (i := 2) rfl (by walk_at "vv")) sa_nil))) (sw_or (st_cmp (opNe hd.gK hr.units) (se_callTy (callLst hd.gK rfl) (by walk_at "gl") hd.m_list (by rfl) (sa_cons (se_call Fs.f16 hd.gK hr (takes_of rfl rfl rfl rfl) (by walk_at "gl") (sa_cons (se_var (i := 2) rfl (by walk_at "vv")) sa_nil)) sa_nil)) (se_call Fs.f28 hd.gK hr (takes_of rfl rfl rfl rfl) (by walk_at "gl") (sa_cons (se_var (i := 2) rfl (by walk_at "vv")) sa_nil))) (sw_or (st_cmp (opNe hd.gK hr.units) (se_call Fs.f11 hd.gK hr (takes_of rfl rfl rfl rfl) (by walk_at "gl") (sa_cons (se_var (i := 2) rfl (by walk_at "vv")) sa_nil)) (se_callB (callLen hd.gK) (by walk_at "gl") hd.m_len (by rfl) (sa_cons (se_call Fs.f28 hd.gK hr (takes_of rfl rfl rfl rfl) (by walk_at "gl") (sa_cons (se_var (i := 2) rfl (by walk_at "vv")) sa_nil)) sa_nil))) (sw_or1 (st_cmp (opNe hd.gK hr.units) (se_call Fs.f12 hd.gK hr (takes_of rfl rfl rfl rfl) (by walk_at "gl") (sa_cons (se_var (i := 2) rfl (by walk_at "vv")) sa_nil)) (se_call Fs.f29 hd.gK hr (takes_of rfl rfl rfl rfl) (by walk_at "gl") (sa_cons (se_var (i := 2) rfl (by walk_at "vv")) sa_nil))))))))) (ss_cons (ss_ret se_bl)
      ss_nil) ss_nil)
      (ss_cons (ss_if (st_w (sw_or (st_cmp (opNe hd.gK hr.units) (se_call Fs.f17 hd.gK hr (takes_of rfl rfl rfl rfl) (by walk_at "gl") (sa_cons (se_var (i := 2) rfl (by walk_at "vv")) sa_nil)) (se_cmp (opEq hd.gK hr.units) (se_var (i := 4) rfl (by walk_at "vv")) (se_lst sa_nil))) (sw_or1 (st_cmp (opNe hd.gK hr.units) (se_callTy (callLst hd.gK rfl) (by walk_at "gl") hd.m_list (by rfl) (sa_cons (se_call Fs.f18 hd.gK hr (takes_of rfl rfl rfl rfl) (by walk_at "gl") (sa_cons (se_var (i := 2) rfl (by walk_at "vv")) sa_nil)) sa_nil)) (se_call Fs.f30 hd.gK hr (takes_of rfl rfl rfl rfl) (by walk_at "gl") (sa_cons (se_var (i := 2) rfl (by walk_at "vv")) sa_nil)))))) (ss_cons (ss_ret se_bl)
      ss_nil) ss_nil)
      (ss_cons (ss_par rfl nd32 rfl rfl (by decide) rfl rfl (sa_cons (se_var (i := 2) rfl (by walk_at "vv")) (sa_cons (se_lst sa_nil) sa_nil)) rfl)
      (ss_cons (ss_while 100000 (passes_of rfl) (st_w (sw_and (st_tru hd.gK (se_is1 "tuple" hd.gK (by decide) (by walk_at "gl") hd.m_isinstance (by walk_at "gl") hd.m_tuple (by rfl) (by decide) (se_var (i := 7) rfl (by walk_at "vv")))) (sw_and1 (st_cmp (opEq hd.gK hr.units) (se_ix hd.gK (se_var (i := 7) rfl (by walk_at "vv")) se_int) (se_str [97, 116]))))) (ss_cons (ss_par rfl nd32 rfl rfl (by decide) rfl rfl (sa_cons (se_ix hd.gK (se_var (i := 7) rfl (by walk_at "vv")) se_int) (sa_cons (se_bin (opAdd hd.gK) (se_lst (sa_cons (se_ix hd.gK (se_var (i := 7) rfl (by walk_at "vv")) se_int) sa_nil)) (se_var (i := 8) rfl (by walk_at "vv"))) sa_nil)) rfl)
      ss_nil))
      (ss_cons (ss_if (st_w (sw_or (st_cmp (opNe hd.gK hr.units) (se_call Fs.f13 hd.gK hr (takes_of rfl rfl rfl rfl) (by walk_at "gl") (sa_cons (se_var (i := 2) rfl (by walk_at "vv")) sa_nil)) (se_tup (sa_cons (se_var (i := 7) rfl (by walk_at "vv")) (sa_cons (se_callTy (callTup2 hd.gK rfl) (by walk_at "gl") hd.m_tuple (by rfl) (sa_cons (se_var (i := 8) rfl (by walk_at "vv")) sa_nil)) sa_nil)))) (sw_or1 (st_cmp (opNe hd.gK hr.units) (se_call Fs.f14 hd.gK hr (takes_of rfl rfl rfl rfl) (by walk_at "gl") (sa_cons (se_var (i := 7) rfl (by walk_at "vv")) (sa_cons (se_var (i := 8) rfl (by walk_at "vv")) sa_nil))) (se_var (i := 2) rfl (by walk_at "vv")))))) (ss_cons (ss_ret se_bl)
      ss_nil) ss_nil)
      (ss_cons (ss_set nd32 rfl (by walk_at "lo") (se_call Fs.f15 hd.gK hr (takes_of rfl rfl rfl rfl) (by walk_at "gl") (sa_cons (se_tup (sa_cons (se_str [97]) (sa_cons (se_str [98]) (sa_cons (se_str [99]) sa_nil)))) (sa_cons (se_var (i := 2) rfl (by walk_at "vv")) sa_nil))))
      (ss_cons (ss_if (st_w (sw_or (st_cmp (opNe hd.gK hr.units) (se_var (i := 5) rfl (by walk_at "vv")) (se_tup (sa_cons (se_str [102, 117, 110]) (sa_cons (se_str [97]) (sa_cons (se_tup (sa_cons (se_str [102, 117, 110]) (sa_cons (se_str [98]) (sa_cons (se_tup (sa_cons (se_str [102, 117, 110]) (sa_cons (se_str [99]) (sa_cons (se_var (i := 2) rfl (by walk_at "vv")) sa_nil)))) sa_nil)))) sa_nil))))) (sw_or1 (st_cmp (opNe hd.gK hr.units) (se_call Fs.f14 hd.gK hr (takes_of rfl rfl rfl rfl) (by walk_at "gl") (sa_cons (se_var (i := 2) rfl (by walk_at "vv")) (sa_cons (se_tup (sa_cons (se_str [120]) (sa_cons se_int sa_nil))) sa_nil))) (se_tup (sa_cons (se_str [97, 116]) (sa_cons (se_tup (sa_cons (se_str [97, 116]) (sa_cons (se_var (i := 2) rfl (by walk_at "vv")) (sa_cons (se_str [120]) sa_nil)))) (sa_cons se_int sa_nil)))))))) (ss_cons (ss_ret se_bl)
      ss_nil) ss_nil)
      (ss_cons (ss_set nd32 rfl (by walk_at "lo") (se_join hd.gK (se_str []) (se_lc rfl nd32 (si_rg1 (by walk_at "gl") hd.m_range (sa_cons (se_call Fs.f20 hd.gK hr (takes_of rfl rfl rfl rfl) (by walk_at "gl") (sa_cons (se_var (i := 1) rfl (by walk_at "vv")) (sa_cons se_int sa_nil))) sa_nil)) (blkOk_by (own := [("k", 9)]) (by walk_at "blk")) (fun _ _ _ _ _ => (sgc_name (i := 9) nd32 rfl (by decide) (by walk_at "lo"))) (fun _ _ _ _ _ => sts_nil) (fun _ _ _ _ _ => (se_ix hd.gK (se_str [97, 49, 95, 90]) (se_call Fs.f20 hd.gK hr takes_F (by walk_at "gl") (sa_cons (se_var (i := 1) rfl (by walk_at "vv")) (sa_cons se_int sa_nil))))))))
      (ss_cons (ss_if (st_cmp (opNe hd.gK hr.units) (se_call Fs.f1 hd.gK hr (takes_of rfl rfl rfl rfl) (by walk_at "gl") (sa_cons (se_var (i := 6) rfl (by walk_at "vv")) sa_nil)) (se_and hd.gK (se_cmp (opNe hd.gK hr.units) (se_var (i := 6) rfl (by walk_at "vv")) (se_str [])) (se_one (se_cmp (opIn hd.gK) (se_ix hd.gK (se_var (i := 6) rfl (by walk_at "vv")) se_int) (se_str [97, 95, 90]))))) (ss_cons (ss_ret se_bl)
      ss_nil) ss_nil)
      ss_nil)))))))))))))))
      (ss_fin (se_call0 Fs.f31 hd.gK hr (takes_of rfl rfl rfl rfl) (by walk_at "gl"))))
end
/-! ### the defs behind the top -/
theorem sc0 : FnScope ["text", "sign", "found", "word"] ["text"] (defScope (top 6)) := ⟨rfl, rfl, rfl, by decide +kernel, rfl, by decide +kernel, by decide +kernel⟩
def dd0 : He.DefD := ⟨("words_of", none), "words_of", "words_of", defArgs (top 6), defBody (top 6), defScope (top 6), [], []⟩
theorem sc1 : FnScope ["word"] ["word"] (defScope (top 7)) := ⟨rfl, rfl, rfl, by decide +kernel, rfl, by decide +kernel, by decide +kernel⟩
def dd1 : He.DefD := ⟨("is_name", none), "is_name", "is_name", defArgs (top 7), defBody (top 7), defScope (top 7), [], []⟩
theorem sc2 : FnScope ["word"] ["word"] (defScope (top 8)) := ⟨rfl, rfl, rfl, by decide +kernel, rfl, by decide +kernel, by decide +kernel⟩
def dd2 : He.DefD := ⟨("is_number", none), "is_number", "is_number", defArgs (top 8), defBody (top 8), defScope (top 8), [], []⟩
theorem sc3 : FnScope ["text", "words", "term", "place"] ["text"] (defScope (top 9)) := ⟨rfl, rfl, rfl, by decide +kernel, rfl, by decide +kernel, by decide +kernel⟩
def dd3 : He.DefD := ⟨("read_term", none), "read_term", "read_term", defArgs (top 9), defBody (top 9), defScope (top 9), [], []⟩
theorem sc4 : FnScope ["words", "place", "deep", "term", "more"] ["words", "place", "deep"] (defScope (top 10)) := ⟨rfl, rfl, rfl, by decide +kernel, rfl, by decide +kernel, by decide +kernel⟩
def dd4 : He.DefD := ⟨("read_row", none), "read_row", "read_row", defArgs (top 10), defBody (top 10), defScope (top 10), [], []⟩
theorem sc5 : FnScope ["words", "place", "deep", "word", "name", "term", "behind", "names", "here"] ["words", "place", "deep"] (defScope (top 11)) := ⟨rfl, rfl, rfl, by decide +kernel, rfl, by decide +kernel, by decide +kernel⟩
def dd5 : He.DefD := ⟨("read_part", none), "read_part", "read_part", defArgs (top 11), defBody (top 11), defScope (top 11), [], []⟩
theorem sc6 : FnScope ["term", "deep"] ["term", "deep"] (defScope (top 12)) := ⟨rfl, rfl, rfl, by decide +kernel, rfl, by decide +kernel, by decide +kernel⟩
def dd6 : He.DefD := ⟨("check_term", none), "check_term", "check_term", defArgs (top 12), defBody (top 12), defScope (top 12), [(.int 0)], []⟩
theorem sc7 : FnScope ["term"] ["term"] (defScope (top 13)) := ⟨rfl, rfl, rfl, by decide +kernel, rfl, by decide +kernel, by decide +kernel⟩
def dd7 : He.DefD := ⟨("told_term", none), "told_term", "told_term", defArgs (top 13), defBody (top 13), defScope (top 13), [], []⟩
theorem sc8 : FnScope ["term", "where", "found", "names", "body"] ["term", "where"] (defScope (top 14)) := ⟨rfl, rfl, rfl, by decide +kernel, rfl, by decide +kernel, by decide +kernel⟩
def dd8 : He.DefD := ⟨("told_in", none), "told_in", "told_in", defArgs (top 14), defBody (top 14), defScope (top 14), [], []⟩
theorem sc9 : FnScope ["term", "found", "name"] ["term"] (defScope (top 15)) := ⟨rfl, rfl, rfl, by decide +kernel, rfl, by decide +kernel, by decide +kernel⟩
def dd9 : He.DefD := ⟨("free_names", none), "free_names", "free_names", defArgs (top 15), defBody (top 15), defScope (top 15), [], []⟩
theorem sc10 : FnScope ["term", "first", "name"] ["term"] (defScope (top 16)) := ⟨rfl, rfl, rfl, by decide +kernel, rfl, by decide +kernel, by decide +kernel⟩
def dd10 : He.DefD := ⟨("all_names", none), "all_names", "all_names", defArgs (top 16), defBody (top 16), defScope (top 16), [], []⟩
theorem sc11 : FnScope ["term"] ["term"] (defScope (top 17)) := ⟨rfl, rfl, rfl, by decide +kernel, rfl, by decide +kernel, by decide +kernel⟩
def dd11 : He.DefD := ⟨("size_of", none), "size_of", "size_of", defArgs (top 17), defBody (top 17), defScope (top 17), [], []⟩
theorem sc12 : FnScope ["term"] ["term"] (defScope (top 18)) := ⟨rfl, rfl, rfl, by decide +kernel, rfl, by decide +kernel, by decide +kernel⟩
def dd12 : He.DefD := ⟨("depth_of", none), "depth_of", "depth_of", defArgs (top 18), defBody (top 18), defScope (top 18), [], []⟩
theorem sc13 : FnScope ["term", "found"] ["term"] (defScope (top 19)) := ⟨rfl, rfl, rfl, by decide +kernel, rfl, by decide +kernel, by decide +kernel⟩
def dd13 : He.DefD := ⟨("row_of", none), "row_of", "row_of", defArgs (top 19), defBody (top 19), defScope (top 19), [], []⟩
theorem sc14 : FnScope ["head", "terms", "term"] ["head", "terms"] (defScope (top 20)) := ⟨rfl, rfl, rfl, by decide +kernel, rfl, by decide +kernel, by decide +kernel⟩
def dd14 : He.DefD := ⟨("put_at", none), "put_at", "put_at", defArgs (top 20), defBody (top 20), defScope (top 20), [], []⟩
theorem sc15 : FnScope ["names", "body", "name"] ["names", "body"] (defScope (top 21)) := ⟨rfl, rfl, rfl, by decide +kernel, rfl, by decide +kernel, by decide +kernel⟩
def dd15 : He.DefD := ⟨("funs_over", none), "funs_over", "funs_over", defArgs (top 21), defBody (top 21), defScope (top 21), [], []⟩
theorem sc16 : FnScope ["term"] ["term"] (defScope (top 22)) := ⟨rfl, rfl, rfl, by decide +kernel, rfl, by decide +kernel, by decide +kernel⟩
def dd16 : He.DefD := ⟨("within", none), "within", "within", defArgs (top 22), defBody (top 22), defScope (top 22), [], []⟩
theorem sc17 : FnScope ["term"] ["term"] (defScope (top 23)) := ⟨rfl, rfl, rfl, by decide +kernel, rfl, by decide +kernel, by decide +kernel⟩
def dd17 : He.DefD := ⟨("is_closed", none), "is_closed", "is_closed", defArgs (top 23), defBody (top 23), defScope (top 23), [], []⟩
theorem sc18 : FnScope ["term"] ["term"] (defScope (top 24)) := ⟨rfl, rfl, rfl, by decide +kernel, rfl, by decide +kernel, by decide +kernel⟩
def dd18 : He.DefD := ⟨("told_tree", none), "told_tree", "told_tree", defArgs (top 24), defBody (top 24), defScope (top 24), [], []⟩
theorem sc19 : FnScope ["cell"] ["cell"] (defScope (top 26)) := ⟨rfl, rfl, rfl, by decide +kernel, rfl, by decide +kernel, by decide +kernel⟩
def dd19 : He.DefD := ⟨("_law_dice", none), "_law_dice", "_law_dice", defArgs (top 26), defBody (top 26), defScope (top 26), [], []⟩
theorem sc20 : FnScope ["dice", "many", "found"] ["dice", "many"] (defScope (top 27)) := ⟨rfl, rfl, rfl, by decide +kernel, rfl, by decide +kernel, by decide +kernel⟩
def dd20 : He.DefD := ⟨("_law_roll", none), "_law_roll", "_law_roll", defArgs (top 27), defBody (top 27), defScope (top 27), [], []⟩
theorem sc21 : FnScope ["script", "most", "cells", "cell"] ["script", "most"] (defScope (top 28)) := ⟨rfl, rfl, rfl, by decide +kernel, rfl, by decide +kernel, by decide +kernel⟩
def dd21 : He.DefD := ⟨("_law_rounds", none), "_law_rounds", "_law_rounds", defArgs (top 28), defBody (top 28), defScope (top 28), [], []⟩
theorem sc22 : FnScope ["what"] ["what"] (defScope (top 29)) := ⟨rfl, rfl, rfl, by decide +kernel, rfl, by decide +kernel, by decide +kernel⟩
def dd22 : He.DefD := ⟨("_law_told", none), "_law_told", "_law_told", defArgs (top 29), defBody (top 29), defScope (top 29), [], []⟩
theorem sc23 : FnScope ["dice", "deep", "names", "sort", "name"] ["dice", "deep", "names"] (defScope (top 30)) := ⟨rfl, rfl, rfl, by decide +kernel, rfl, by decide +kernel, by decide +kernel⟩
def dd23 : He.DefD := ⟨("_law_term", none), "_law_term", "_law_term", defArgs (top 30), defBody (top 30), defScope (top 30), [], []⟩
theorem sc24 : FnScope ["term"] ["term"] (defScope (top 31)) := ⟨rfl, rfl, rfl, by decide +kernel, rfl, by decide +kernel, by decide +kernel⟩
def dd24 : He.DefD := ⟨("_law_full", none), "_law_full", "_law_full", defArgs (top 31), defBody (top 31), defScope (top 31), [], []⟩
theorem sc25 : FnScope ["term", "where", "found", "inner"] ["term", "where"] (defScope (top 32)) := ⟨rfl, rfl, rfl, by decide +kernel, rfl, by decide +kernel, by decide +kernel⟩
def dd25 : He.DefD := ⟨("_law_text", none), "_law_text", "_law_text", defArgs (top 32), defBody (top 32), defScope (top 32), [], []⟩
theorem sc26 : FnScope ["term", "found", "name"] ["term"] (defScope (top 33)) := ⟨rfl, rfl, rfl, by decide +kernel, rfl, by decide +kernel, by decide +kernel⟩
def dd26 : He.DefD := ⟨("_law_free", none), "_law_free", "_law_free", defArgs (top 33), defBody (top 33), defScope (top 33), [], []⟩
theorem sc27 : FnScope ["term", "name"] ["term"] (defScope (top 34)) := ⟨rfl, rfl, rfl, by decide +kernel, rfl, by decide +kernel, by decide +kernel⟩
def dd27 : He.DefD := ⟨("_law_all", none), "_law_all", "_law_all", defArgs (top 34), defBody (top 34), defScope (top 34), [], []⟩
theorem sc28 : FnScope ["term"] ["term"] (defScope (top 35)) := ⟨rfl, rfl, rfl, by decide +kernel, rfl, by decide +kernel, by decide +kernel⟩
def dd28 : He.DefD := ⟨("_law_within", none), "_law_within", "_law_within", defArgs (top 35), defBody (top 35), defScope (top 35), [], []⟩
theorem sc29 : FnScope ["term"] ["term"] (defScope (top 36)) := ⟨rfl, rfl, rfl, by decide +kernel, rfl, by decide +kernel, by decide +kernel⟩
def dd29 : He.DefD := ⟨("_law_depth", none), "_law_depth", "_law_depth", defArgs (top 36), defBody (top 36), defScope (top 36), [], []⟩
theorem sc30 : FnScope ["term", "rows", "row"] ["term"] (defScope (top 37)) := ⟨rfl, rfl, rfl, by decide +kernel, rfl, by decide +kernel, by decide +kernel⟩
def dd30 : He.DefD := ⟨("_law_lines", none), "_law_lines", "_law_lines", defArgs (top 37), defBody (top 37), defScope (top 37), [], []⟩
theorem sc31 : FnScope ["term", "told", "bad", "due", "k", "f"] [] (defScope (top 38)) := ⟨rfl, rfl, rfl, by decide +kernel, rfl, by decide +kernel, by decide +kernel⟩
def dd31 : He.DefD := ⟨("_law_plain", none), "_law_plain", "_law_plain", defArgs (top 38), defBody (top 38), defScope (top 38), [], []⟩
theorem sc32 : FnScope ["script", "dice", "term", "text", "names", "body", "word", "head", "parts", "k"] ["script"] (defScope (top 39)) := ⟨rfl, rfl, rfl, by decide +kernel, rfl, by decide +kernel, by decide +kernel⟩
def dd32 : He.DefD := ⟨("law", none), "law", "law", defArgs (top 39), defBody (top 39), defScope (top 39), [], []⟩
def fn : List He.DefD := [dd0, dd1, dd2, dd3, dd4, dd5, dd6, dd7, dd8, dd9, dd10, dd11, dd12, dd13, dd14, dd15, dd16, dd17, dd18, dd19, dd20, dd21, dd22, dd23, dd24, dd25, dd26, dd27, dd28, dd29, dd30, dd31, dd32]
def fa : List He.Fa := [.glo "words_of", .glo "is_name", .glo "is_number", .glo "read_term", .glo "read_row", .glo "read_part", .glo "check_term", .glo "told_term", .glo "told_in", .glo "free_names", .glo "all_names", .glo "size_of", .glo "depth_of", .glo "row_of", .glo "put_at", .glo "funs_over", .glo "within", .glo "is_closed", .glo "told_tree", .glo "_law_dice", .glo "_law_roll", .glo "_law_rounds", .glo "_law_told", .glo "_law_term", .glo "_law_full", .glo "_law_text", .glo "_law_free", .glo "_law_all", .glo "_law_within", .glo "_law_depth", .glo "_law_lines", .glo "_law_plain", .glo "law", .free "abs", .free "all", .free "dict", .free "enumerate", .free "int", .free "isinstance", .free "len", .free "list", .free "max", .free "range", .free "str", .free "tuple", .int "MOST_DEEP" 60, .str "SIGNS_OF_NAMES" ⟨([97, 98, 99, 100, 101, 102, 103, 104, 105, 106, 107, 108, 109, 110, 111, 112, 113, 114, 115, 116, 117, 118, 119, 120, 121, 122, 65, 66, 67, 68, 69, 70, 71, 72, 73, 74, 75, 76, 77, 78, 79, 80, 81, 82, 83, 84, 85, 86, 87, 88, 89, 90, 48, 49, 50, 51, 52, 53, 54, 55, 56, 57, 95] : List Nat).toArray⟩, .glo "TermError", .exc "TermError", .exm "TermError" "TermError" true]
def tf : List He.Defn := [("is_name", none), ("is_number", none), ("told_tree", none), ("_law_plain", none)]
def exN (K : PySem.W.Frag) : Bool := decide (tf.map fun p => (He.cT K p).2).Nodup
def cdN : Nat → Str
  | 0 => "words_of"
  | 1 => "is_name"
  | 2 => "is_number"
  | 3 => "read_term"
  | 4 => "read_row"
  | 5 => "read_part"
  | 6 => "check_term"
  | 7 => "told_term"
  | 8 => "told_in"
  | 9 => "free_names"
  | 10 => "all_names"
  | 11 => "size_of"
  | 12 => "depth_of"
  | 13 => "row_of"
  | 14 => "put_at"
  | 15 => "funs_over"
  | 16 => "within"
  | 17 => "is_closed"
  | 18 => "told_tree"
  | 19 => "_law_dice"
  | 20 => "_law_roll"
  | 21 => "_law_rounds"
  | 22 => "_law_told"
  | 23 => "_law_term"
  | 24 => "_law_full"
  | 25 => "_law_text"
  | 26 => "_law_free"
  | 27 => "_law_all"
  | 28 => "_law_within"
  | 29 => "_law_depth"
  | 30 => "_law_lines"
  | 31 => "_law_plain"
  | 32 => "law"
  | _ => ""
def cdK (K : PySem.W.Frag) (i : Nat) : Addr := He.codeOf K (cdN i, none)
def tbK (K : PySem.W.Frag) (i : Nat) : Addr := (He.cT K (cdN i, none)).2
def cvK (K : PySem.W.Frag) : Nat → Value
  | 1 => .ref (He.ga K "TermError")
  | _ => .none
def gK (K : PySem.W.Frag) : G := ⟨K, cvK K, [(tbK K 1, none), (tbK K 2, none), (tbK K 18, none), (tbK K 31, some "_law_plain.<locals>.<lambda>")], ltK⟩
section
variable {P : Program} {w : World} {K : PySem.W.Frag} {h base : Heap} {mg : Str → Option Value}
theorem hdK (X : K.In h) (G : h.Ns mainGlobals mg) (c : He.SaysX fa fn [] tf exN w h K) (TB : ∀ p ∈ tf, LamX.TabB base mg (He.cT K p).1 (He.cT K p).2) : Hd K mg base (gK K) (He.ga K "TermError") (cdK K) (tbK K) := by
  have fc : ∀ {f : He.Fa}, f ∈ fa → f.ok K = true := fun hf => c.t.d.facts hf
  have nd : (tf.map fun p => (He.cT K p).2).Nodup := of_decide_eq_true c.more
  have nd2 : ([tbK K 1, tbK K 2, tbK K 18, tbK K 31] : List Addr).Nodup := nd
  simp only [List.nodup_cons, List.mem_cons, List.not_mem_nil, not_or] at nd2
  exact {
    gK := rfl
    m_abs := He.free_ok X G (fc (f := .free "abs") (List.mem_of_getElem? (i := 33) rfl))
    m_all := He.free_ok X G (fc (f := .free "all") (List.mem_of_getElem? (i := 34) rfl))
    m_dict := He.free_ok X G (fc (f := .free "dict") (List.mem_of_getElem? (i := 35) rfl))
    m_enumerate := He.free_ok X G (fc (f := .free "enumerate") (List.mem_of_getElem? (i := 36) rfl))
    m_int := He.free_ok X G (fc (f := .free "int") (List.mem_of_getElem? (i := 37) rfl))
    m_isinstance := He.free_ok X G (fc (f := .free "isinstance") (List.mem_of_getElem? (i := 38) rfl))
    m_len := He.free_ok X G (fc (f := .free "len") (List.mem_of_getElem? (i := 39) rfl))
    m_list := He.free_ok X G (fc (f := .free "list") (List.mem_of_getElem? (i := 40) rfl))
    m_max := He.free_ok X G (fc (f := .free "max") (List.mem_of_getElem? (i := 41) rfl))
    m_range := He.free_ok X G (fc (f := .free "range") (List.mem_of_getElem? (i := 42) rfl))
    m_str := He.free_ok X G (fc (f := .free "str") (List.mem_of_getElem? (i := 43) rfl))
    m_tuple := He.free_ok X G (fc (f := .free "tuple") (List.mem_of_getElem? (i := 44) rfl))
    c_MOST_DEEP := He.int_ok X G (fc (f := .int "MOST_DEEP" 60) (List.mem_of_getElem? (i := 45) rfl))
    c_SIGNS_OF_NAMES := He.str_ok X G (fc (f := .str "SIGNS_OF_NAMES" ⟨([97, 98, 99, 100, 101, 102, 103, 104, 105, 106, 107, 108, 109, 110, 111, 112, 113, 114, 115, 116, 117, 118, 119, 120, 121, 122, 65, 66, 67, 68, 69, 70, 71, 72, 73, 74, 75, 76, 77, 78, 79, 80, 81, 82, 83, 84, 85, 86, 87, 88, 89, 90, 48, 49, 50, 51, 52, 53, 54, 55, 56, 57, 95] : List Nat).toArray⟩) (List.mem_of_getElem? (i := 46) rfl))
    x_TermError := by
      obtain ⟨h1, h2, h3, h4⟩ := He.exc_ok (fc (f := .exc "TermError") (List.mem_of_getElem? (i := 48) rfl))
      exact ⟨rfl, h1, He.glo_ok X G (fc (f := .glo "TermError") (List.mem_of_getElem? (i := 47) rfl)), h2, h3, h4⟩
    t_TermError := by
      intro n b hb
      unfold catch_TermError at hb
      split at hb
      · rename_i e
        subst e
        cases hb
        exact He.exm_ok (fc (f := .exm "TermError" "TermError" true) (List.mem_of_getElem? (i := 49) rfl))
      · cases hb
    tb1 := let t := TB _ (List.mem_of_getElem? (i := 0) rfl); ⟨t.code, t.bm, t.gP⟩
    hT1 := List.mem_of_getElem? (i := 0) rfl
    hu1 := by
      intro p hp e
      simp only [gK, List.mem_cons, List.not_mem_nil, or_false] at hp
      rcases hp with rfl | rfl | rfl | rfl <;> first | rfl | (exfalso; simp_all)
    tb2 := let t := TB _ (List.mem_of_getElem? (i := 1) rfl); ⟨t.code, t.bm, t.gP⟩
    hT2 := List.mem_of_getElem? (i := 1) rfl
    hu2 := by
      intro p hp e
      simp only [gK, List.mem_cons, List.not_mem_nil, or_false] at hp
      rcases hp with rfl | rfl | rfl | rfl <;> first | rfl | (exfalso; simp_all)
    tb18 := let t := TB _ (List.mem_of_getElem? (i := 2) rfl); ⟨t.code, t.bm, t.gP⟩
    hT18 := List.mem_of_getElem? (i := 2) rfl
    hu18 := by
      intro p hp e
      simp only [gK, List.mem_cons, List.not_mem_nil, or_false] at hp
      rcases hp with rfl | rfl | rfl | rfl <;> first | rfl | (exfalso; simp_all)
    tb31 := TB _ (List.mem_of_getElem? (i := 3) rfl)
    hT31 := List.mem_of_getElem? (i := 3) rfl
    hu31 := by
      intro p hp e
      simp only [gK, List.mem_cons, List.not_mem_nil, or_false] at hp
      rcases hp with rfl | rfl | rfl | rfl <;> first | rfl | (exfalso; simp_all)
    lt := fun _ => rfl }
theorem fsK (gKd : Hd K mg base (gK K) (He.ga K "TermError") (cdK K) (tbK K)) (X : K.In h) (G : h.Ns mainGlobals mg) (c : He.SaysX fa fn [] tf exN w h K) : ∀ d : Nat, Fs P w K mg base (gK K) (callF d) (lamP d) d := by
  have fc : ∀ {f : He.Fa}, f ∈ fa → f.ok K = true := fun hf => c.t.d.facts hf
  obtain ⟨fd0, F0⟩ := c.t.d.def_ 0 (d := dd0) rfl
  have E0 : FunE K "words_of" (top 6) (He.fAd K ("words_of", none)) fd0 (.ref (cdK K 0)) := FunE.of F0
  have M0 : mg "words_of" = some (.ref (He.fAd K ("words_of", none))) := He.glo_ok X G (fc (f := .glo "words_of") (List.mem_of_getElem? (i := 0) rfl))
  have B0 : Binds K fd0 ["text"] [] := FunD.bindsN F0 fun _ _ _ _ _ _ us hl => match us, hl with | [_], _ => rfl
  obtain ⟨fd1, F1⟩ := c.t.d.def_ 1 (d := dd1) rfl
  have E1 : FunE K "is_name" (top 7) (He.fAd K ("is_name", none)) fd1 (.ref (cdK K 1)) := FunE.of F1
  have M1 : mg "is_name" = some (.ref (He.fAd K ("is_name", none))) := He.glo_ok X G (fc (f := .glo "is_name") (List.mem_of_getElem? (i := 1) rfl))
  have B1 : Binds K fd1 ["word"] [] := FunD.bindsN F1 fun _ _ _ _ _ _ us hl => match us, hl with | [_], _ => rfl
  obtain ⟨fd2, F2⟩ := c.t.d.def_ 2 (d := dd2) rfl
  have E2 : FunE K "is_number" (top 8) (He.fAd K ("is_number", none)) fd2 (.ref (cdK K 2)) := FunE.of F2
  have M2 : mg "is_number" = some (.ref (He.fAd K ("is_number", none))) := He.glo_ok X G (fc (f := .glo "is_number") (List.mem_of_getElem? (i := 2) rfl))
  have B2 : Binds K fd2 ["word"] [] := FunD.bindsN F2 fun _ _ _ _ _ _ us hl => match us, hl with | [_], _ => rfl
  obtain ⟨fd3, F3⟩ := c.t.d.def_ 3 (d := dd3) rfl
  have E3 : FunE K "read_term" (top 9) (He.fAd K ("read_term", none)) fd3 (.ref (cdK K 3)) := FunE.of F3
  have M3 : mg "read_term" = some (.ref (He.fAd K ("read_term", none))) := He.glo_ok X G (fc (f := .glo "read_term") (List.mem_of_getElem? (i := 3) rfl))
  have B3 : Binds K fd3 ["text"] [] := FunD.bindsN F3 fun _ _ _ _ _ _ us hl => match us, hl with | [_], _ => rfl
  obtain ⟨fd4, F4⟩ := c.t.d.def_ 4 (d := dd4) rfl
  have E4 : FunE K "read_row" (top 10) (He.fAd K ("read_row", none)) fd4 (.ref (cdK K 4)) := FunE.of F4
  have M4 : mg "read_row" = some (.ref (He.fAd K ("read_row", none))) := He.glo_ok X G (fc (f := .glo "read_row") (List.mem_of_getElem? (i := 4) rfl))
  have B4 : Binds K fd4 ["words", "place", "deep"] [] := FunD.bindsN F4 fun _ _ _ _ _ _ us hl => match us, hl with | [_, _, _], _ => rfl
  obtain ⟨fd5, F5⟩ := c.t.d.def_ 5 (d := dd5) rfl
  have E5 : FunE K "read_part" (top 11) (He.fAd K ("read_part", none)) fd5 (.ref (cdK K 5)) := FunE.of F5
  have M5 : mg "read_part" = some (.ref (He.fAd K ("read_part", none))) := He.glo_ok X G (fc (f := .glo "read_part") (List.mem_of_getElem? (i := 5) rfl))
  have B5 : Binds K fd5 ["words", "place", "deep"] [] := FunD.bindsN F5 fun _ _ _ _ _ _ us hl => match us, hl with | [_, _, _], _ => rfl
  obtain ⟨fd6, F6⟩ := c.t.d.def_ 6 (d := dd6) rfl
  have E6 : FunE K "check_term" (top 12) (He.fAd K ("check_term", none)) fd6 (.ref (cdK K 6)) := FunE.of F6
  have M6 : mg "check_term" = some (.ref (He.fAd K ("check_term", none))) := He.glo_ok X G (fc (f := .glo "check_term") (List.mem_of_getElem? (i := 6) rfl))
  have B6 : Binds K fd6 ["term", "deep"] [] := by
    obtain ⟨ds, v, b⟩ := FunD.binds1 F6 (ps := ["term", "deep"]) 2 1 (by intro z; cases z) rfl (fun _ _ _ _ _ _ _ us its hl hl2 => match us, its, hl, hl2 with | [_, _], [_], _, _ => ⟨_, rfl, rfl⟩)
    cases v
    exact b
  obtain ⟨ds6, V6, Bd6⟩ := FunD.binds1 F6 (ps := ["term", "deep"]) 1 0 (by intro z; cases z) rfl (fun _ _ _ _ _ _ _ us its hl hl2 => match us, its, hl, hl2 with | [_], [_], _, _ => ⟨_, rfl, rfl⟩)
  obtain ⟨fd7, F7⟩ := c.t.d.def_ 7 (d := dd7) rfl
  have E7 : FunE K "told_term" (top 13) (He.fAd K ("told_term", none)) fd7 (.ref (cdK K 7)) := FunE.of F7
  have M7 : mg "told_term" = some (.ref (He.fAd K ("told_term", none))) := He.glo_ok X G (fc (f := .glo "told_term") (List.mem_of_getElem? (i := 7) rfl))
  have B7 : Binds K fd7 ["term"] [] := FunD.bindsN F7 fun _ _ _ _ _ _ us hl => match us, hl with | [_], _ => rfl
  obtain ⟨fd8, F8⟩ := c.t.d.def_ 8 (d := dd8) rfl
  have E8 : FunE K "told_in" (top 14) (He.fAd K ("told_in", none)) fd8 (.ref (cdK K 8)) := FunE.of F8
  have M8 : mg "told_in" = some (.ref (He.fAd K ("told_in", none))) := He.glo_ok X G (fc (f := .glo "told_in") (List.mem_of_getElem? (i := 8) rfl))
  have B8 : Binds K fd8 ["term", "where"] [] := FunD.bindsN F8 fun _ _ _ _ _ _ us hl => match us, hl with | [_, _], _ => rfl
  obtain ⟨fd9, F9⟩ := c.t.d.def_ 9 (d := dd9) rfl
  have E9 : FunE K "free_names" (top 15) (He.fAd K ("free_names", none)) fd9 (.ref (cdK K 9)) := FunE.of F9
  have M9 : mg "free_names" = some (.ref (He.fAd K ("free_names", none))) := He.glo_ok X G (fc (f := .glo "free_names") (List.mem_of_getElem? (i := 9) rfl))
  have B9 : Binds K fd9 ["term"] [] := FunD.bindsN F9 fun _ _ _ _ _ _ us hl => match us, hl with | [_], _ => rfl
  obtain ⟨fd10, F10⟩ := c.t.d.def_ 10 (d := dd10) rfl
  have E10 : FunE K "all_names" (top 16) (He.fAd K ("all_names", none)) fd10 (.ref (cdK K 10)) := FunE.of F10
  have M10 : mg "all_names" = some (.ref (He.fAd K ("all_names", none))) := He.glo_ok X G (fc (f := .glo "all_names") (List.mem_of_getElem? (i := 10) rfl))
  have B10 : Binds K fd10 ["term"] [] := FunD.bindsN F10 fun _ _ _ _ _ _ us hl => match us, hl with | [_], _ => rfl
  obtain ⟨fd11, F11⟩ := c.t.d.def_ 11 (d := dd11) rfl
  have E11 : FunE K "size_of" (top 17) (He.fAd K ("size_of", none)) fd11 (.ref (cdK K 11)) := FunE.of F11
  have M11 : mg "size_of" = some (.ref (He.fAd K ("size_of", none))) := He.glo_ok X G (fc (f := .glo "size_of") (List.mem_of_getElem? (i := 11) rfl))
  have B11 : Binds K fd11 ["term"] [] := FunD.bindsN F11 fun _ _ _ _ _ _ us hl => match us, hl with | [_], _ => rfl
  obtain ⟨fd12, F12⟩ := c.t.d.def_ 12 (d := dd12) rfl
  have E12 : FunE K "depth_of" (top 18) (He.fAd K ("depth_of", none)) fd12 (.ref (cdK K 12)) := FunE.of F12
  have M12 : mg "depth_of" = some (.ref (He.fAd K ("depth_of", none))) := He.glo_ok X G (fc (f := .glo "depth_of") (List.mem_of_getElem? (i := 12) rfl))
  have B12 : Binds K fd12 ["term"] [] := FunD.bindsN F12 fun _ _ _ _ _ _ us hl => match us, hl with | [_], _ => rfl
  obtain ⟨fd13, F13⟩ := c.t.d.def_ 13 (d := dd13) rfl
  have E13 : FunE K "row_of" (top 19) (He.fAd K ("row_of", none)) fd13 (.ref (cdK K 13)) := FunE.of F13
  have M13 : mg "row_of" = some (.ref (He.fAd K ("row_of", none))) := He.glo_ok X G (fc (f := .glo "row_of") (List.mem_of_getElem? (i := 13) rfl))
  have B13 : Binds K fd13 ["term"] [] := FunD.bindsN F13 fun _ _ _ _ _ _ us hl => match us, hl with | [_], _ => rfl
  obtain ⟨fd14, F14⟩ := c.t.d.def_ 14 (d := dd14) rfl
  have E14 : FunE K "put_at" (top 20) (He.fAd K ("put_at", none)) fd14 (.ref (cdK K 14)) := FunE.of F14
  have M14 : mg "put_at" = some (.ref (He.fAd K ("put_at", none))) := He.glo_ok X G (fc (f := .glo "put_at") (List.mem_of_getElem? (i := 14) rfl))
  have B14 : Binds K fd14 ["head", "terms"] [] := FunD.bindsN F14 fun _ _ _ _ _ _ us hl => match us, hl with | [_, _], _ => rfl
  obtain ⟨fd15, F15⟩ := c.t.d.def_ 15 (d := dd15) rfl
  have E15 : FunE K "funs_over" (top 21) (He.fAd K ("funs_over", none)) fd15 (.ref (cdK K 15)) := FunE.of F15
  have M15 : mg "funs_over" = some (.ref (He.fAd K ("funs_over", none))) := He.glo_ok X G (fc (f := .glo "funs_over") (List.mem_of_getElem? (i := 15) rfl))
  have B15 : Binds K fd15 ["names", "body"] [] := FunD.bindsN F15 fun _ _ _ _ _ _ us hl => match us, hl with | [_, _], _ => rfl
  obtain ⟨fd16, F16⟩ := c.t.d.def_ 16 (d := dd16) rfl
  have E16 : FunE K "within" (top 22) (He.fAd K ("within", none)) fd16 (.ref (cdK K 16)) := FunE.of F16
  have M16 : mg "within" = some (.ref (He.fAd K ("within", none))) := He.glo_ok X G (fc (f := .glo "within") (List.mem_of_getElem? (i := 16) rfl))
  have B16 : Binds K fd16 ["term"] [] := FunD.bindsN F16 fun _ _ _ _ _ _ us hl => match us, hl with | [_], _ => rfl
  obtain ⟨fd17, F17⟩ := c.t.d.def_ 17 (d := dd17) rfl
  have E17 : FunE K "is_closed" (top 23) (He.fAd K ("is_closed", none)) fd17 (.ref (cdK K 17)) := FunE.of F17
  have M17 : mg "is_closed" = some (.ref (He.fAd K ("is_closed", none))) := He.glo_ok X G (fc (f := .glo "is_closed") (List.mem_of_getElem? (i := 17) rfl))
  have B17 : Binds K fd17 ["term"] [] := FunD.bindsN F17 fun _ _ _ _ _ _ us hl => match us, hl with | [_], _ => rfl
  obtain ⟨fd18, F18⟩ := c.t.d.def_ 18 (d := dd18) rfl
  have E18 : FunE K "told_tree" (top 24) (He.fAd K ("told_tree", none)) fd18 (.ref (cdK K 18)) := FunE.of F18
  have M18 : mg "told_tree" = some (.ref (He.fAd K ("told_tree", none))) := He.glo_ok X G (fc (f := .glo "told_tree") (List.mem_of_getElem? (i := 18) rfl))
  have B18 : Binds K fd18 ["term"] [] := FunD.bindsN F18 fun _ _ _ _ _ _ us hl => match us, hl with | [_], _ => rfl
  obtain ⟨fd19, F19⟩ := c.t.d.def_ 19 (d := dd19) rfl
  have E19 : FunE K "_law_dice" (top 26) (He.fAd K ("_law_dice", none)) fd19 (.ref (cdK K 19)) := FunE.of F19
  have M19 : mg "_law_dice" = some (.ref (He.fAd K ("_law_dice", none))) := He.glo_ok X G (fc (f := .glo "_law_dice") (List.mem_of_getElem? (i := 19) rfl))
  have B19 : Binds K fd19 ["cell"] [] := FunD.bindsN F19 fun _ _ _ _ _ _ us hl => match us, hl with | [_], _ => rfl
  obtain ⟨fd20, F20⟩ := c.t.d.def_ 20 (d := dd20) rfl
  have E20 : FunE K "_law_roll" (top 27) (He.fAd K ("_law_roll", none)) fd20 (.ref (cdK K 20)) := FunE.of F20
  have M20 : mg "_law_roll" = some (.ref (He.fAd K ("_law_roll", none))) := He.glo_ok X G (fc (f := .glo "_law_roll") (List.mem_of_getElem? (i := 20) rfl))
  have B20 : Binds K fd20 ["dice", "many"] [] := FunD.bindsN F20 fun _ _ _ _ _ _ us hl => match us, hl with | [_, _], _ => rfl
  obtain ⟨fd21, F21⟩ := c.t.d.def_ 21 (d := dd21) rfl
  have E21 : FunE K "_law_rounds" (top 28) (He.fAd K ("_law_rounds", none)) fd21 (.ref (cdK K 21)) := FunE.of F21
  have M21 : mg "_law_rounds" = some (.ref (He.fAd K ("_law_rounds", none))) := He.glo_ok X G (fc (f := .glo "_law_rounds") (List.mem_of_getElem? (i := 21) rfl))
  have B21 : Binds K fd21 ["script", "most"] [] := FunD.bindsN F21 fun _ _ _ _ _ _ us hl => match us, hl with | [_, _], _ => rfl
  obtain ⟨fd22, F22⟩ := c.t.d.def_ 22 (d := dd22) rfl
  have E22 : FunE K "_law_told" (top 29) (He.fAd K ("_law_told", none)) fd22 (.ref (cdK K 22)) := FunE.of F22
  have M22 : mg "_law_told" = some (.ref (He.fAd K ("_law_told", none))) := He.glo_ok X G (fc (f := .glo "_law_told") (List.mem_of_getElem? (i := 22) rfl))
  have B22 : Binds K fd22 ["what"] [] := FunD.bindsN F22 fun _ _ _ _ _ _ us hl => match us, hl with | [_], _ => rfl
  obtain ⟨fd23, F23⟩ := c.t.d.def_ 23 (d := dd23) rfl
  have E23 : FunE K "_law_term" (top 30) (He.fAd K ("_law_term", none)) fd23 (.ref (cdK K 23)) := FunE.of F23
  have M23 : mg "_law_term" = some (.ref (He.fAd K ("_law_term", none))) := He.glo_ok X G (fc (f := .glo "_law_term") (List.mem_of_getElem? (i := 23) rfl))
  have B23 : Binds K fd23 ["dice", "deep", "names"] [] := FunD.bindsN F23 fun _ _ _ _ _ _ us hl => match us, hl with | [_, _, _], _ => rfl
  obtain ⟨fd24, F24⟩ := c.t.d.def_ 24 (d := dd24) rfl
  have E24 : FunE K "_law_full" (top 31) (He.fAd K ("_law_full", none)) fd24 (.ref (cdK K 24)) := FunE.of F24
  have M24 : mg "_law_full" = some (.ref (He.fAd K ("_law_full", none))) := He.glo_ok X G (fc (f := .glo "_law_full") (List.mem_of_getElem? (i := 24) rfl))
  have B24 : Binds K fd24 ["term"] [] := FunD.bindsN F24 fun _ _ _ _ _ _ us hl => match us, hl with | [_], _ => rfl
  obtain ⟨fd25, F25⟩ := c.t.d.def_ 25 (d := dd25) rfl
  have E25 : FunE K "_law_text" (top 32) (He.fAd K ("_law_text", none)) fd25 (.ref (cdK K 25)) := FunE.of F25
  have M25 : mg "_law_text" = some (.ref (He.fAd K ("_law_text", none))) := He.glo_ok X G (fc (f := .glo "_law_text") (List.mem_of_getElem? (i := 25) rfl))
  have B25 : Binds K fd25 ["term", "where"] [] := FunD.bindsN F25 fun _ _ _ _ _ _ us hl => match us, hl with | [_, _], _ => rfl
  obtain ⟨fd26, F26⟩ := c.t.d.def_ 26 (d := dd26) rfl
  have E26 : FunE K "_law_free" (top 33) (He.fAd K ("_law_free", none)) fd26 (.ref (cdK K 26)) := FunE.of F26
  have M26 : mg "_law_free" = some (.ref (He.fAd K ("_law_free", none))) := He.glo_ok X G (fc (f := .glo "_law_free") (List.mem_of_getElem? (i := 26) rfl))
  have B26 : Binds K fd26 ["term"] [] := FunD.bindsN F26 fun _ _ _ _ _ _ us hl => match us, hl with | [_], _ => rfl
  obtain ⟨fd27, F27⟩ := c.t.d.def_ 27 (d := dd27) rfl
  have E27 : FunE K "_law_all" (top 34) (He.fAd K ("_law_all", none)) fd27 (.ref (cdK K 27)) := FunE.of F27
  have M27 : mg "_law_all" = some (.ref (He.fAd K ("_law_all", none))) := He.glo_ok X G (fc (f := .glo "_law_all") (List.mem_of_getElem? (i := 27) rfl))
  have B27 : Binds K fd27 ["term"] [] := FunD.bindsN F27 fun _ _ _ _ _ _ us hl => match us, hl with | [_], _ => rfl
  obtain ⟨fd28, F28⟩ := c.t.d.def_ 28 (d := dd28) rfl
  have E28 : FunE K "_law_within" (top 35) (He.fAd K ("_law_within", none)) fd28 (.ref (cdK K 28)) := FunE.of F28
  have M28 : mg "_law_within" = some (.ref (He.fAd K ("_law_within", none))) := He.glo_ok X G (fc (f := .glo "_law_within") (List.mem_of_getElem? (i := 28) rfl))
  have B28 : Binds K fd28 ["term"] [] := FunD.bindsN F28 fun _ _ _ _ _ _ us hl => match us, hl with | [_], _ => rfl
  obtain ⟨fd29, F29⟩ := c.t.d.def_ 29 (d := dd29) rfl
  have E29 : FunE K "_law_depth" (top 36) (He.fAd K ("_law_depth", none)) fd29 (.ref (cdK K 29)) := FunE.of F29
  have M29 : mg "_law_depth" = some (.ref (He.fAd K ("_law_depth", none))) := He.glo_ok X G (fc (f := .glo "_law_depth") (List.mem_of_getElem? (i := 29) rfl))
  have B29 : Binds K fd29 ["term"] [] := FunD.bindsN F29 fun _ _ _ _ _ _ us hl => match us, hl with | [_], _ => rfl
  obtain ⟨fd30, F30⟩ := c.t.d.def_ 30 (d := dd30) rfl
  have E30 : FunE K "_law_lines" (top 37) (He.fAd K ("_law_lines", none)) fd30 (.ref (cdK K 30)) := FunE.of F30
  have M30 : mg "_law_lines" = some (.ref (He.fAd K ("_law_lines", none))) := He.glo_ok X G (fc (f := .glo "_law_lines") (List.mem_of_getElem? (i := 30) rfl))
  have B30 : Binds K fd30 ["term"] [] := FunD.bindsN F30 fun _ _ _ _ _ _ us hl => match us, hl with | [_], _ => rfl
  obtain ⟨fd31, F31⟩ := c.t.d.def_ 31 (d := dd31) rfl
  have E31 : FunE K "_law_plain" (top 38) (He.fAd K ("_law_plain", none)) fd31 (.ref (cdK K 31)) := FunE.of F31
  have M31 : mg "_law_plain" = some (.ref (He.fAd K ("_law_plain", none))) := He.glo_ok X G (fc (f := .glo "_law_plain") (List.mem_of_getElem? (i := 31) rfl))
  have B31 : Binds K fd31 [] [] := FunD.bindsN F31 fun _ _ _ _ _ _ us hl => match us, hl with | [], _ => rfl
  intro d
  induction d with
  | zero =>
    have f0 : FsF P w K mg base (gK K) (callF 0) 0 := {
      f0 := ⟨_, fd0, ["text"], [], [], rfl, M0, F0.kp, B0, .nil, fun _ _ => .nil, ok_bad (ps := ["text"]) fun _ _ => rfl⟩,
      f1 := ⟨_, fd1, ["word"], [], [], rfl, M1, F1.kp, B1, .nil, fun _ _ => .nil, ok_bad (ps := ["word"]) fun _ _ => rfl⟩,
      f2 := ⟨_, fd2, ["word"], [], [], rfl, M2, F2.kp, B2, .nil, fun _ _ => .nil, ok_bad (ps := ["word"]) fun _ _ => rfl⟩,
      f3 := ⟨_, fd3, ["text"], [], [], rfl, M3, F3.kp, B3, .nil, fun _ _ => .nil, ok_bad (ps := ["text"]) fun _ _ => rfl⟩,
      f4 := ⟨_, fd4, ["words", "place", "deep"], [], [], rfl, M4, F4.kp, B4, .nil, fun _ _ => .nil, ok_bad (ps := ["words", "place", "deep"]) fun _ _ => rfl⟩,
      f5 := ⟨_, fd5, ["words", "place", "deep"], [], [], rfl, M5, F5.kp, B5, .nil, fun _ _ => .nil, ok_bad (ps := ["words", "place", "deep"]) fun _ _ => rfl⟩,
      f6 := ⟨_, fd6, ["term", "deep"], [], [], rfl, M6, F6.kp, B6, .nil, fun _ _ => .nil, ok_bad (ps := ["term", "deep"]) fun _ _ => rfl⟩,
      f6d1 := ⟨_, fd6, ["term", "deep"], ds6, _, rfl, M6, F6.kp, Bd6, V6, fun _ _ => .cons (.int _) .nil, ok_bad (ps := ["term", "deep"]) fun _ _ => rfl⟩,
      f7 := ⟨_, fd7, ["term"], [], [], rfl, M7, F7.kp, B7, .nil, fun _ _ => .nil, ok_bad (ps := ["term"]) fun _ _ => rfl⟩,
      f8 := ⟨_, fd8, ["term", "where"], [], [], rfl, M8, F8.kp, B8, .nil, fun _ _ => .nil, ok_bad (ps := ["term", "where"]) fun _ _ => rfl⟩,
      f9 := ⟨_, fd9, ["term"], [], [], rfl, M9, F9.kp, B9, .nil, fun _ _ => .nil, ok_bad (ps := ["term"]) fun _ _ => rfl⟩,
      f10 := ⟨_, fd10, ["term"], [], [], rfl, M10, F10.kp, B10, .nil, fun _ _ => .nil, ok_bad (ps := ["term"]) fun _ _ => rfl⟩,
      f11 := ⟨_, fd11, ["term"], [], [], rfl, M11, F11.kp, B11, .nil, fun _ _ => .nil, ok_bad (ps := ["term"]) fun _ _ => rfl⟩,
      f12 := ⟨_, fd12, ["term"], [], [], rfl, M12, F12.kp, B12, .nil, fun _ _ => .nil, ok_bad (ps := ["term"]) fun _ _ => rfl⟩,
      f13 := ⟨_, fd13, ["term"], [], [], rfl, M13, F13.kp, B13, .nil, fun _ _ => .nil, ok_bad (ps := ["term"]) fun _ _ => rfl⟩,
      f14 := ⟨_, fd14, ["head", "terms"], [], [], rfl, M14, F14.kp, B14, .nil, fun _ _ => .nil, ok_bad (ps := ["head", "terms"]) fun _ _ => rfl⟩,
      f15 := ⟨_, fd15, ["names", "body"], [], [], rfl, M15, F15.kp, B15, .nil, fun _ _ => .nil, ok_bad (ps := ["names", "body"]) fun _ _ => rfl⟩,
      f16 := ⟨_, fd16, ["term"], [], [], rfl, M16, F16.kp, B16, .nil, fun _ _ => .nil, ok_bad (ps := ["term"]) fun _ _ => rfl⟩,
      f17 := ⟨_, fd17, ["term"], [], [], rfl, M17, F17.kp, B17, .nil, fun _ _ => .nil, ok_bad (ps := ["term"]) fun _ _ => rfl⟩,
      f18 := ⟨_, fd18, ["term"], [], [], rfl, M18, F18.kp, B18, .nil, fun _ _ => .nil, ok_bad (ps := ["term"]) fun _ _ => rfl⟩,
      f19 := ⟨_, fd19, ["cell"], [], [], rfl, M19, F19.kp, B19, .nil, fun _ _ => .nil, ok_bad (ps := ["cell"]) fun _ _ => rfl⟩,
      f20 := ⟨_, fd20, ["dice", "many"], [], [], rfl, M20, F20.kp, B20, .nil, fun _ _ => .nil, ok_bad (ps := ["dice", "many"]) fun _ _ => rfl⟩,
      f21 := ⟨_, fd21, ["script", "most"], [], [], rfl, M21, F21.kp, B21, .nil, fun _ _ => .nil, ok_bad (ps := ["script", "most"]) fun _ _ => rfl⟩,
      f22 := ⟨_, fd22, ["what"], [], [], rfl, M22, F22.kp, B22, .nil, fun _ _ => .nil, ok_bad (ps := ["what"]) fun _ _ => rfl⟩,
      f23 := ⟨_, fd23, ["dice", "deep", "names"], [], [], rfl, M23, F23.kp, B23, .nil, fun _ _ => .nil, ok_bad (ps := ["dice", "deep", "names"]) fun _ _ => rfl⟩,
      f24 := ⟨_, fd24, ["term"], [], [], rfl, M24, F24.kp, B24, .nil, fun _ _ => .nil, ok_bad (ps := ["term"]) fun _ _ => rfl⟩,
      f25 := ⟨_, fd25, ["term", "where"], [], [], rfl, M25, F25.kp, B25, .nil, fun _ _ => .nil, ok_bad (ps := ["term", "where"]) fun _ _ => rfl⟩,
      f26 := ⟨_, fd26, ["term"], [], [], rfl, M26, F26.kp, B26, .nil, fun _ _ => .nil, ok_bad (ps := ["term"]) fun _ _ => rfl⟩,
      f27 := ⟨_, fd27, ["term"], [], [], rfl, M27, F27.kp, B27, .nil, fun _ _ => .nil, ok_bad (ps := ["term"]) fun _ _ => rfl⟩,
      f28 := ⟨_, fd28, ["term"], [], [], rfl, M28, F28.kp, B28, .nil, fun _ _ => .nil, ok_bad (ps := ["term"]) fun _ _ => rfl⟩,
      f29 := ⟨_, fd29, ["term"], [], [], rfl, M29, F29.kp, B29, .nil, fun _ _ => .nil, ok_bad (ps := ["term"]) fun _ _ => rfl⟩,
      f30 := ⟨_, fd30, ["term"], [], [], rfl, M30, F30.kp, B30, .nil, fun _ _ => .nil, ok_bad (ps := ["term"]) fun _ _ => rfl⟩,
      f31 := ⟨_, fd31, [], [], [], rfl, M31, F31.kp, B31, .nil, fun _ _ => .nil, ok_bad (ps := []) fun _ _ => rfl⟩ }
    exact ⟨f0, fun j fn h => by cases h⟩
  | succ d ih =>
    have f0 : FsF P w K mg base (gK K) (callF (d + 1)) (d + 1) := {
      f0 := ⟨_, fd0, ["text"], [], [], rfl, M0, F0.kp, B0, .nil, fun _ _ => .nil, okE (k := d) (c := callF (d + 1)) E0 rfl sc0 (fun _ _ => rfl) fun A outer s H E hr => d0 gKd ih hr⟩,
      f1 := ⟨_, fd1, ["word"], [], [], rfl, M1, F1.kp, B1, .nil, fun _ _ => .nil, okE (k := d) (c := callF (d + 1)) E1 rfl sc1 (fun _ _ => rfl) fun A outer s H E hr => d1 gKd ih hr⟩,
      f2 := ⟨_, fd2, ["word"], [], [], rfl, M2, F2.kp, B2, .nil, fun _ _ => .nil, okE (k := d) (c := callF (d + 1)) E2 rfl sc2 (fun _ _ => rfl) fun A outer s H E hr => d2 gKd ih hr⟩,
      f3 := ⟨_, fd3, ["text"], [], [], rfl, M3, F3.kp, B3, .nil, fun _ _ => .nil, okE (k := d) (c := callF (d + 1)) E3 rfl sc3 (fun _ _ => rfl) fun A outer s H E hr => d3 gKd ih hr⟩,
      f4 := ⟨_, fd4, ["words", "place", "deep"], [], [], rfl, M4, F4.kp, B4, .nil, fun _ _ => .nil, okE (k := d) (c := callF (d + 1)) E4 rfl sc4 (fun _ _ => rfl) fun A outer s H E hr => d4 gKd ih hr⟩,
      f5 := ⟨_, fd5, ["words", "place", "deep"], [], [], rfl, M5, F5.kp, B5, .nil, fun _ _ => .nil, okE (k := d) (c := callF (d + 1)) E5 rfl sc5 (fun _ _ => rfl) fun A outer s H E hr => d5 gKd ih hr⟩,
      f6 := ⟨_, fd6, ["term", "deep"], [], [], rfl, M6, F6.kp, B6, .nil, fun _ _ => .nil, okE (k := d) (c := callF (d + 1)) E6 rfl sc6 (fun _ _ => rfl) fun A outer s H E hr => d6 gKd ih hr⟩,
      f6d1 := ⟨_, fd6, ["term", "deep"], ds6, _, rfl, M6, F6.kp, Bd6, V6, fun _ _ => .cons (.int _) .nil, okE (k := d) (c := callF (d + 1)) E6 rfl sc6 (fun _ _ => rfl) fun A outer s H E hr => d6 gKd ih hr⟩,
      f7 := ⟨_, fd7, ["term"], [], [], rfl, M7, F7.kp, B7, .nil, fun _ _ => .nil, okE (k := d) (c := callF (d + 1)) E7 rfl sc7 (fun _ _ => rfl) fun A outer s H E hr => d7 gKd ih hr⟩,
      f8 := ⟨_, fd8, ["term", "where"], [], [], rfl, M8, F8.kp, B8, .nil, fun _ _ => .nil, okE (k := d) (c := callF (d + 1)) E8 rfl sc8 (fun _ _ => rfl) fun A outer s H E hr => d8 gKd ih hr⟩,
      f9 := ⟨_, fd9, ["term"], [], [], rfl, M9, F9.kp, B9, .nil, fun _ _ => .nil, okE (k := d) (c := callF (d + 1)) E9 rfl sc9 (fun _ _ => rfl) fun A outer s H E hr => d9 gKd ih hr⟩,
      f10 := ⟨_, fd10, ["term"], [], [], rfl, M10, F10.kp, B10, .nil, fun _ _ => .nil, okE (k := d) (c := callF (d + 1)) E10 rfl sc10 (fun _ _ => rfl) fun A outer s H E hr => d10 gKd ih hr⟩,
      f11 := ⟨_, fd11, ["term"], [], [], rfl, M11, F11.kp, B11, .nil, fun _ _ => .nil, okE (k := d) (c := callF (d + 1)) E11 rfl sc11 (fun _ _ => rfl) fun A outer s H E hr => d11 gKd ih hr⟩,
      f12 := ⟨_, fd12, ["term"], [], [], rfl, M12, F12.kp, B12, .nil, fun _ _ => .nil, okE (k := d) (c := callF (d + 1)) E12 rfl sc12 (fun _ _ => rfl) fun A outer s H E hr => d12 gKd ih hr⟩,
      f13 := ⟨_, fd13, ["term"], [], [], rfl, M13, F13.kp, B13, .nil, fun _ _ => .nil, okE (k := d) (c := callF (d + 1)) E13 rfl sc13 (fun _ _ => rfl) fun A outer s H E hr => d13 gKd ih hr⟩,
      f14 := ⟨_, fd14, ["head", "terms"], [], [], rfl, M14, F14.kp, B14, .nil, fun _ _ => .nil, okE (k := d) (c := callF (d + 1)) E14 rfl sc14 (fun _ _ => rfl) fun A outer s H E hr => d14 gKd ih hr⟩,
      f15 := ⟨_, fd15, ["names", "body"], [], [], rfl, M15, F15.kp, B15, .nil, fun _ _ => .nil, okE (k := d) (c := callF (d + 1)) E15 rfl sc15 (fun _ _ => rfl) fun A outer s H E hr => d15 gKd ih hr⟩,
      f16 := ⟨_, fd16, ["term"], [], [], rfl, M16, F16.kp, B16, .nil, fun _ _ => .nil, okE (k := d) (c := callF (d + 1)) E16 rfl sc16 (fun _ _ => rfl) fun A outer s H E hr => d16 gKd ih hr⟩,
      f17 := ⟨_, fd17, ["term"], [], [], rfl, M17, F17.kp, B17, .nil, fun _ _ => .nil, okE (k := d) (c := callF (d + 1)) E17 rfl sc17 (fun _ _ => rfl) fun A outer s H E hr => d17 gKd ih hr⟩,
      f18 := ⟨_, fd18, ["term"], [], [], rfl, M18, F18.kp, B18, .nil, fun _ _ => .nil, okE (k := d) (c := callF (d + 1)) E18 rfl sc18 (fun _ _ => rfl) fun A outer s H E hr => d18 gKd ih hr⟩,
      f19 := ⟨_, fd19, ["cell"], [], [], rfl, M19, F19.kp, B19, .nil, fun _ _ => .nil, okE (k := d) (c := callF (d + 1)) E19 rfl sc19 (fun _ _ => rfl) fun A outer s H E hr => d19 gKd ih hr⟩,
      f20 := ⟨_, fd20, ["dice", "many"], [], [], rfl, M20, F20.kp, B20, .nil, fun _ _ => .nil, okE (k := d) (c := callF (d + 1)) E20 rfl sc20 (fun _ _ => rfl) fun A outer s H E hr => d20 gKd ih hr⟩,
      f21 := ⟨_, fd21, ["script", "most"], [], [], rfl, M21, F21.kp, B21, .nil, fun _ _ => .nil, okE (k := d) (c := callF (d + 1)) E21 rfl sc21 (fun _ _ => rfl) fun A outer s H E hr => d21 gKd ih hr⟩,
      f22 := ⟨_, fd22, ["what"], [], [], rfl, M22, F22.kp, B22, .nil, fun _ _ => .nil, okE (k := d) (c := callF (d + 1)) E22 rfl sc22 (fun _ _ => rfl) fun A outer s H E hr => d22 gKd ih hr⟩,
      f23 := ⟨_, fd23, ["dice", "deep", "names"], [], [], rfl, M23, F23.kp, B23, .nil, fun _ _ => .nil, okE (k := d) (c := callF (d + 1)) E23 rfl sc23 (fun _ _ => rfl) fun A outer s H E hr => d23 gKd ih hr⟩,
      f24 := ⟨_, fd24, ["term"], [], [], rfl, M24, F24.kp, B24, .nil, fun _ _ => .nil, okE (k := d) (c := callF (d + 1)) E24 rfl sc24 (fun _ _ => rfl) fun A outer s H E hr => d24 gKd ih hr⟩,
      f25 := ⟨_, fd25, ["term", "where"], [], [], rfl, M25, F25.kp, B25, .nil, fun _ _ => .nil, okE (k := d) (c := callF (d + 1)) E25 rfl sc25 (fun _ _ => rfl) fun A outer s H E hr => d25 gKd ih hr⟩,
      f26 := ⟨_, fd26, ["term"], [], [], rfl, M26, F26.kp, B26, .nil, fun _ _ => .nil, okE (k := d) (c := callF (d + 1)) E26 rfl sc26 (fun _ _ => rfl) fun A outer s H E hr => d26 gKd ih hr⟩,
      f27 := ⟨_, fd27, ["term"], [], [], rfl, M27, F27.kp, B27, .nil, fun _ _ => .nil, okE (k := d) (c := callF (d + 1)) E27 rfl sc27 (fun _ _ => rfl) fun A outer s H E hr => d27 gKd ih hr⟩,
      f28 := ⟨_, fd28, ["term"], [], [], rfl, M28, F28.kp, B28, .nil, fun _ _ => .nil, okE (k := d) (c := callF (d + 1)) E28 rfl sc28 (fun _ _ => rfl) fun A outer s H E hr => d28 gKd ih hr⟩,
      f29 := ⟨_, fd29, ["term"], [], [], rfl, M29, F29.kp, B29, .nil, fun _ _ => .nil, okE (k := d) (c := callF (d + 1)) E29 rfl sc29 (fun _ _ => rfl) fun A outer s H E hr => d29 gKd ih hr⟩,
      f30 := ⟨_, fd30, ["term"], [], [], rfl, M30, F30.kp, B30, .nil, fun _ _ => .nil, okE (k := d) (c := callF (d + 1)) E30 rfl sc30 (fun _ _ => rfl) fun A outer s H E hr => d30 gKd ih hr⟩,
      f31 := ⟨_, fd31, [], [], [], rfl, M31, F31.kp, B31, .nil, fun _ _ => .nil, okE (k := d) (c := callF (d + 1)) E31 rfl sc31 (fun _ _ => rfl) fun A outer s H E hr => d31 gKd ih hr⟩ }
    exact ⟨f0, fun j fn h => ⟨d, rfl, lamAll gKd ih.toFsF j fn h⟩⟩
theorem lawK (gKd : Hd K mg base (gK K) (He.ga K "TermError") (cdK K) (tbK K)) (X : K.In h) (G : h.Ns mainGlobals mg) (c : He.SaysX fa fn [] tf exN w h K) (d : Nat) (hp : ∀ ρ, ∃ S', eLaw (callF d) (lamP d) ρ [] = .ok (.bl true) S') {fd : FuncData} (E : FunE K "law" (top 39) (He.fAd K ("law", none)) fd (.ref (cdK K 32))) :
    FnOk P w K mg base (L2.CX P w) (d + 1) (He.fAd K ("law", none)) fd ["script"] (spLaw (gK K) 10 (bLaw (callF d) (lamP d))) :=
  okLaw (k := d) (N := ["script", "dice", "term", "text", "names", "body", "word", "head", "parts", "k"]) E rfl sc32 hp fun A outer s H E hr => dLaw gKd (fsK gKd X G c d) hr
end

abbrev RR : PySem.W.OpenRow := PySem.W.OpenLaw.row PySem.Challenge.rw_lambdastack_k01_terms_told_as_text
abbrev hk : PySem.W.Hook := He.hookX 4 fa fn [] tf exN
def ob (s : PySem.W.SharedT) : He.AlX := He.obsX 4 fa fn [] tf exN (HandSHeadRun.getT s)
theorem ob_eq (s : PySem.W.SharedT) : ob s = hk.obs s.abs := He.obsX_eq (HandSHeadRun.getT_eq s)
def names1 : List PySem.Str := ["__name__", "LambdaFault", "TermError", "SIGNS_OF_NAMES", "MOST_DEEP", "words_of", "is_name", "is_number", "read_term", "read_row", "read_part", "check_term", "told_term", "told_in", "free_names", "all_names", "size_of", "depth_of"]
def names2 : List PySem.Str := ["row_of", "put_at", "funs_over", "within", "is_closed", "told_tree", "_law_dice", "_law_roll", "_law_rounds", "_law_told", "_law_term", "_law_full", "_law_text", "_law_free", "_law_all", "_law_within", "_law_depth", "_law_lines", "_law_plain"]
def names : List PySem.Str := names1 ++ names2
theorem run (w : World) : HandSHeadRun.RunEq RR (PySem.W.view RR.prog [39]) hk ob 3000 names w := by
  intro os
  kernel_rfl

def isT : R PV → Bool
  | .ok (.bl true) _ => true
  | _ => false
theorem isT_ok {r : R PV} (h : isT r = true) : ∃ S', r = .ok (.bl true) S' := by
  match r, h with
  | .ok (.bl true) S', _ => exact ⟨S', rfl⟩
theorem plain0 : isT (eLaw (callF 140) (lamP 140) [] []) = true := by decide +kernel
theorem plain : ∀ ρ, ∃ S', eLaw (callF 140) (lamP 140) ρ [] = .ok (.bl true) S' := fun ρ => isT_ok (r := eLaw (callF 140) (lamP 140) ρ []) plain0

def ρ0 : Env' := [some (.loc 0)] ++ List.replicate 9 none
def LoopOk : Prop := ∀ (ns : List Int) (so : SO), (so = .lst (ns.map PV.int) ∨ so = .rol (ns.map PV.int)) → ∃ ρ' S', bLaw (callF 140) (lamP 140) ρ0 [so] = .ok (.nx ρ') S'
theorem rps_ints {K : PySem.W.Frag} {μ : List Addr} {H : Hp} : ∀ ns : List Int, Rps K μ H (ns.map PV.int) (ns.map V.int)
  | [] => .nil
  | n :: ns => .cons (.int n) (rps_ints ns)
theorem lawAt {w : World} {mg : Str → Option Value} {f : Addr} {h : Heap} {K : PySem.W.Frag} (X : K.In h) (G : h.Ns mainGlobals mg) (hfa : mg ("law" : Str) = some (.ref f)) (c : He.SaysX fa fn [] tf exN w h K) (hl : LoopOk) (hp : ∀ ρ, ∃ S', eLaw (callF 140) (lamP 140) ρ [] = .ok (.bl true) S') :
    LamX.LawAtS PySem.Challenge.rw_lambdastack_k01_terms_told_as_text w K (L2.CX (PySem.Challenge.rw_lambdastack_k01_terms_told_as_text).prog w) 141 63 "script" mg f h := by
  have fc : ∀ {f : He.Fa}, f ∈ fa → f.ok K = true := fun hf => c.t.d.facts hf
  have e := hfa.symm.trans (He.glo_ok X G (fc (f := .glo "law") (List.mem_of_getElem? (i := 32) rfl)))
  cases e
  obtain ⟨fd, F⟩ := c.t.d.def_ 32 (d := dd32) rfl
  have b := FunD.bindsA (ps := ["script"]) F fun _ _ _ _ _ _ us hl => match us, hl with | [_], _ => rfl
  have cs : ∀ {Q : Addr × Addr → Prop}, (∀ p ∈ tf, Q (He.cT K p)) → ∀ p ∈ tf.map (He.cT K), Q p := fun {Q} hq p hp => by
    obtain ⟨p', h1, rfl⟩ := List.mem_map.mp hp
    exact hq p' h1
  refine ⟨fd, tf.map (He.cT K), spLaw (gK K) 10 (bLaw (callF 140) (lamP 140)), cs c.empty, cs c.out, cs fun p hp => PySem.W.codeHd_of_K X (c.hd p hp), fun s v => b s [v] rfl, fun H a ns hlen hbits hH hS => ?_, fun base Kb Gb TB => ?_⟩
  · have tabs : ∀ p ∈ (gK K).T, TabN H p := by
      have ht : ∀ p ∈ tf, H (He.cT K p).2 = some (.tbl #[]) := fun p hp => hH _ (List.mem_map.mpr ⟨p, hp, rfl⟩)
      intro p hp
      simp only [gK, List.mem_cons, List.not_mem_nil, or_false] at hp
      rcases hp with rfl | rfl | rfl | rfl
      · exact ⟨#[], ht _ (List.mem_of_getElem? (i := 0) rfl), True.intro⟩
      · exact ⟨#[], ht _ (List.mem_of_getElem? (i := 1) rfl), True.intro⟩
      · exact ⟨#[], ht _ (List.mem_of_getElem? (i := 2) rfl), True.intro⟩
      · exact LamX.TabS.nil (ht _ (List.mem_of_getElem? (i := 3) rfl))
    have fin : ∀ so : SO, (so = .lst (ns.map PV.int) ∨ so = .rol (ns.map PV.int)) → Ro (gK K) [a] H a so → spLaw (gK K) 10 (bLaw (callF 140) (lamP 140)) [.ref a] H (fun v _ => v = .bl true) fun _ _ _ => False := fun so hso ro => by
      refine ⟨rfl, ⟨[a], [so], [.loc 0], ⟨rfl, fun l l' x o o' e1 e2 _ _ _ _ => ?_, fun l x o e1 e2 => ?_, tabs⟩, .cons (.loc rfl) .nil, hl ns so hso⟩, fun _ => rfl⟩
      · have h1 : l < 1 := (List.getElem?_eq_some_iff.mp e1).1
        have h2 : l' < 1 := (List.getElem?_eq_some_iff.mp e2).1
        omega
      · have h1 : l < 1 := (List.getElem?_eq_some_iff.mp e1).1
        obtain rfl : l = 0 := by omega
        cases e1
        cases e2
        exact ro
    rcases hS with (hS | ⟨o, hS⟩) | hS
    · exact fin _ (.inl rfl) ⟨_, hS, rps_ints ns⟩
    · exact fin _ (.inr rfl) ⟨_, .inl ⟨o, hS⟩, rps_ints ns⟩
    · exact fin _ (.inr rfl) ⟨_, .inr hS, rps_ints ns⟩
  · exact lawK (hdK X G c fun p hp => TB _ (List.mem_map.mpr ⟨p, hp, rfl⟩)) X G c 140 hp (FunE.of F)
theorem holds (hl : LoopOk) (hp : ∀ ρ, ∃ S', eLaw (callF 140) (lamP 140) ρ [] = .ok (.bl true) S') : PySem.Challenge.rw_lambdastack_k01_terms_told_as_text.Holds := by
  open PySem PySem.W PySem.Calls PyProof.Rows in
  w_on; o_law
  refine HandSHeadRun.head_any (r := RR) (q := PySem.W.view RR.prog [39]) (H := hk) (ob := ob) (M := 3000) (loose := names) (d := HandSHeadRun.topDef RR.prog 39) (kwd := []) ob_eq
    (by kernel_rfl) (fun s => by kernel_rfl) run (by kernel_rfl) (by kernel_rfl) (by kernel_rfl) (by rfl) (by first | assumption | decide +kernel) (by decide +kernel) ⟨rfl, rfl, rfl, rfl, rfl, by decide +kernel⟩ ?hw ?hc
  case hw => w_witness2
  case hc =>
    refine LamX.walk_ofTsE (l := PySem.Challenge.rw_lambdastack_k01_terms_told_as_text) (n := 63) (k := 141) (x := "script") (CX := fun w => L2.CX (PySem.Challenge.rw_lambdastack_k01_terms_told_as_text).prog w) rfl (by decide) (by kernel_rfl) ⟨rfl, by decide, by decide⟩ ?F ?C
    case F =>
      intro w mg fa h Y G hmg0
      obtain ⟨K, KX, c⟩ := Y
      have hmg : mg ("law" : PySem.Str) = some (.ref fa) := by
        have e : (HandSHeadRun.topDef RR.prog 39).name = ("law" : PySem.Str) := by kernel_rfl
        rw [← e]
        exact hmg0
      exact ⟨K, KX, lawAt KX G hmg c hl hp⟩
    case C =>
      intro w H s e s' ⟨_, _, _, _, _, _, _, _, _, _, _, _, z⟩
      exact z

local macro_rules | `(tactic| walk_at "ev") => `(tactic| (repeat first
  | refine wVar rfl ?_ | refine wC ?_ | refine wNil ?_ | refine wCons ?_ | refine wBin ?_ | refine wUn ?_ | refine wCl ?_ | refine wTup ?_ | refine wLst ?_ | refine wIf ?_ | refine wIs ?_ | refine wCall ?_ | refine wDn ?_ | refine wNot ?_ | refine wAppd ?_ | refine wM1 ?_ | refine wSl ?_ | refine oNo_ ?_ | refine oSo_ ?_
  | refine wbCmp ?_ | refine wbTru ?_ | refine wbNot ?_ | refine wbAnd ?_ | refine wbOr ?_ | refine wB ?_
  | refine wsSeq ?_ | refine wsNil ?_ | refine wsRet ?_ | refine wsExpr ?_ | refine wsIf ?_ | refine wsSet ?_ | refine wsAsg ?_ | refine wsPar ?_ | refine wsAug rfl ?_))
theorem eqI (i j : Int) (S : Store) : eqP (.int i) (.int j) S = some (.bl (decide (i = j)), S) := rfl
theorem ix3 {S : Store} {p : Nat} {x y z : PV} (h : S[p]? = some (.lst [x, y, z])) : ixP (.loc p) (.int 0) S = some (x, S) ∧ ixP (.loc p) (.int 1) S = some (y, S) ∧ ixP (.loc p) (.int 2) S = some (z, S) := by
  unfold ixP
  simp only [h]
  exact ⟨rfl, rfl, rfl⟩
theorem set3 {S : Store} {p : Nat} {x y z w : PV} (h : S[p]? = some (.lst [x, y, z])) : setP (.loc p) (.int 0) w S = some (S.set p (.lst [w, y, z])) ∧ setP (.loc p) (.int 1) w S = some (S.set p (.lst [x, w, z])) ∧ setP (.loc p) (.int 2) w S = some (S.set p (.lst [x, y, w])) := by
  unfold setP
  simp only [h]
  exact ⟨rfl, rfl, rfl⟩
theorem get_set {S : Store} {p : Nat} {o o' : SO} (h : S[p]? = some o') : (S.set p o)[p]? = some o := List.getElem?_set_self (List.getElem?_eq_some_iff.mp h).1
def RollPost (S : Store) (p : Nat) (many : Int) : PV → Store → Prop := fun v S' => ∃ r a' b' f', 0 ≤ r ∧ r < many ∧ v = .int r ∧ S' = S.set p (.lst [.int a', .int b', .int f'])
theorem modI {a b : Int} {S : Store} (h : 0 < b) : modP (.int a) (.int b) S = some (.int (a % b), S) := if_pos h
theorem fdivI {a b : Int} {S : Store} (h : 0 < b) (h2 : b < 1073741824) : fdivP (.int a) (.int b) S = some (.int (a / b), S) := if_pos ⟨h, h2⟩
theorem mulI {a b : Int} {S : Store} (h : -(2 ^ 64) < b) (h2 : b < 2 ^ 64) : mulP (.int a) (.int b) S = some (.int (a * b), S) := if_pos (.inr ⟨h, h2⟩)
theorem setS {S : Store} {p : Nat} {o o' : SO} : (S.set p o).set p o' = S.set p o' := List.set_set ..
theorem gtI (i j : Int) (S : Store) : gtP (.int i) (.int j) S = some (.bl (decide (j < i)), S) := rfl
theorem asgS {S S' : Store} {p : Nat} {i : Int} {v : PV} {ρ : Env'} {k : Nat} (e : ρ[k]? = some (some (.loc p))) (h : setP (.loc p) (.int i) v S = some S') : tgS (eVar k) (eC (.int i)) v ρ S = some (ρ, S') := by
  unfold tgS eVar
  rw [e]
  show (match setP (.loc p) (.int i) v S with | some S3 => some (ρ, S3) | none => none) = _
  rw [h]
theorem roll_b (c l) {S : Store} {p : Nat} {a b f many : Int} (h : S[p]? = some (.lst [.int a, .int b, .int f])) (h1 : 0 < many) (h2 : many ≤ 100000000) : WE (runB 3 (b20 c l) [.loc p, .int many] S) (RollPost S p many) := by
  refine wRun ?_
  unfold b20
  refine wsSeq (wsIf ?_)
  have E : ∀ (QQ : Fl → Store → Prop), (∀ r a', 0 ≤ r → r < many → QQ (.rt (.int r)) (S.set p (.lst [.int a', .int b, .int f]))) → WS ((sSeq (sAsg (eBin modP (eCl intP (eCons (eBin ixP (eVar 0) (eC (.int 0))) eNil)) (eVar 1)) (tgN 2)) (sSeq (sAsg (eBin fdivP (eBin ixP (eVar 0) (eC (.int 0))) (eVar 1)) (tgS (eVar 0) (eC (.int 0)))) (sSeq (sRet (eVar 2)) sNil))) [some (.loc p), some (.int many), none] S) QQ := by
    intro QQ hQ
    walk_at "ev"
    refine .mk (ix3 h).1 ?_
    walk_at "ev"
    refine .mk rfl ?_
    walk_at "ev"
    refine .mk (modI h1) ?_
    walk_at "ev"
    refine .mk (ix3 h).1 ?_
    walk_at "ev"
    refine .mk (fdivI h1 (by omega)) ?_
    refine ⟨_, S.set p (.lst [.int (a / many), .int b, .int f]), asgS rfl (set3 h).1, ?_⟩
    walk_at "ev"
    exact hQ _ _ (Int.emod_nonneg _ (by omega)) (Int.emod_lt_of_pos _ h1)
  have hE := E (nxt (sSeq (sAsg (eC (.int 0)) (tgS (eVar 0) (eC (.int 2)))) (sSeq (sIf (bCmp gtP (eVar 1) (eC (.int 100000000))) (sSeq (sRet (eBin modP (eCl intP (eCons (eBin addP (eBin mulP (eCall c 20 2 [] (eCons (eVar 0) (eCons (eBin addP (eBin fdivP (eVar 1) (eC (.int 100000000))) (eC (.int 1))) eNil))) (eC (.int 100000000))) (eCall c 20 2 [] (eCons (eVar 0) (eCons (eC (.int 100000000)) eNil)))) eNil)) (eVar 1))) sNil) sNil) (sSeq (sAsg (eBin modP (eCl intP (eCons (eBin addP (eBin addP (eBin mulP (eBin ixP (eVar 0) (eC (.int 0))) (eC (.int 48271))) (eBin mulP (eBin ixP (eVar 0) (eC (.int 1))) (eC (.int 69621)))) (eC (.int 11))) eNil)) (eC (.int 2147483647))) (tgS (eVar 0) (eC (.int 0)))) (sSeq (sAsg (eBin addP (eBin ixP (eVar 0) (eC (.int 1))) (eC (.int 1))) (tgS (eVar 0) (eC (.int 1)))) (sSeq (sRet (eBin modP (eCl intP (eCons (eBin fdivP (eBin ixP (eVar 0) (eC (.int 0))) (eC (.int 7))) eNil)) (eVar 1))) sNil))))) (fin (RollPost S p many))) (fun r a' q1 q2 => ⟨r, a', b, f, q1, q2, rfl, rfl⟩)
  have G : WS (sSeq (sAsg (eC (.int 0)) (tgS (eVar 0) (eC (.int 2)))) (sSeq (sIf (bCmp gtP (eVar 1) (eC (.int 100000000))) (sSeq (sRet (eBin modP (eCl intP (eCons (eBin addP (eBin mulP (eCall c 20 2 [] (eCons (eVar 0) (eCons (eBin addP (eBin fdivP (eVar 1) (eC (.int 100000000))) (eC (.int 1))) eNil))) (eC (.int 100000000))) (eCall c 20 2 [] (eCons (eVar 0) (eCons (eC (.int 100000000)) eNil)))) eNil)) (eVar 1))) sNil) sNil) (sSeq (sAsg (eBin modP (eCl intP (eCons (eBin addP (eBin addP (eBin mulP (eBin ixP (eVar 0) (eC (.int 0))) (eC (.int 48271))) (eBin mulP (eBin ixP (eVar 0) (eC (.int 1))) (eC (.int 69621)))) (eC (.int 11))) eNil)) (eC (.int 2147483647))) (tgS (eVar 0) (eC (.int 0)))) (sSeq (sAsg (eBin addP (eBin ixP (eVar 0) (eC (.int 1))) (eC (.int 1))) (tgS (eVar 0) (eC (.int 1)))) (sSeq (sRet (eBin modP (eCl intP (eCons (eBin fdivP (eBin ixP (eVar 0) (eC (.int 0))) (eC (.int 7))) eNil)) (eVar 1))) sNil)))) [some (.loc p), some (.int many), none] S) (fin (RollPost S p many)) := by
    walk_at "ev"
    refine ⟨_, _, asgS rfl (set3 h).2.2, ?_⟩
    have g1 := get_set (o := .lst [.int a, .int b, .int 0]) h
    walk_at "ev"
    refine ⟨decide (100000000 < many), _, rfl, ?_⟩
    rw [if_neg (by rw [decide_eq_true_eq]; omega)]
    walk_at "ev"
    refine .mk (ix3 g1).1 ?_
    walk_at "ev"
    refine .mk (mulI (by decide) (by decide)) ?_
    walk_at "ev"
    refine .mk (ix3 g1).2.1 ?_
    walk_at "ev"
    refine .mk (mulI (by decide) (by decide)) ?_
    walk_at "ev"
    refine .mk rfl ?_
    walk_at "ev"
    refine .mk rfl ?_
    walk_at "ev"
    refine .mk rfl ?_
    walk_at "ev"
    refine .mk (modI (by decide)) ?_
    walk_at "ev"
    refine ⟨_, _, asgS rfl (set3 g1).1, ?_⟩
    have g2 := get_set (o := .lst [.int ((a * 48271 + b * 69621 + 11) % 2147483647), .int b, .int 0]) g1
    walk_at "ev"
    refine .mk (ix3 g2).2.1 ?_
    walk_at "ev"
    refine .mk rfl ?_
    refine ⟨_, _, asgS rfl (set3 g2).2.1, ?_⟩
    have g3 := get_set (o := .lst [.int ((a * 48271 + b * 69621 + 11) % 2147483647), .int (b + 1), .int 0]) g2
    walk_at "ev"
    refine .mk (ix3 g3).1 ?_
    walk_at "ev"
    refine .mk (fdivI (by decide) (by decide)) ?_
    walk_at "ev"
    refine .mk rfl ?_
    walk_at "ev"
    refine .mk (modI h1) ?_
    exact ⟨_, _, _, _, Int.emod_nonneg _ (by omega), Int.emod_lt_of_pos _ h1, rfl, by rw [setS, setS]⟩
  refine wbOr ?_
  walk_at "ev"
  refine .mk (ix3 h).2.2 ?_
  walk_at "ev"
  refine ⟨decide (f = 2), S, rfl, ?_⟩
  by_cases hf : f = 2
  · rw [if_pos (decide_eq_true hf), if_pos rfl]
    exact hE
  · rw [if_neg (by rw [decide_eq_true_eq]; exact hf)]
    walk_at "ev"
    refine .mk (ix3 h).2.2 ?_
    walk_at "ev"
    refine ⟨decide (f = 1), S, rfl, ?_⟩
    by_cases hf1 : f = 1
    · rw [if_pos (decide_eq_true hf1)]
      walk_at "ev"
      refine .mk (ix3 h).1 ?_
      walk_at "ev"
      refine ⟨decide (0 < a), S, rfl, ?_⟩
      by_cases ha : 0 < a
      · rw [if_pos (decide_eq_true ha)]
        exact hE
      · rw [if_neg (by rw [decide_eq_true_eq]; exact ha)]
        exact wsNil G
    · rw [if_neg (by rw [decide_eq_true_eq]; exact hf1), if_neg Bool.false_ne_true]
      exact wsNil G

inductive Nm where
  | x | y | z | u | w | v
  deriving DecidableEq
def Nm.s : Nm → List Nat
  | .x => [120] | .y => [121] | .z => [122] | .u => [117] | .w => [119, 49] | .v => [118, 95]
inductive Tm where
  | nm (n : Nm) | num (k : Fin 9) | fn (n : Nm) (b : Tm) | ap (a b : Tm)
def Tm.pv : Tm → PV
  | .nm n => .str n.s
  | .num k => .int k.val
  | .fn n b => .tup [.str [102, 117, 110], .str n.s, b.pv]
  | .ap a b => .tup [.str [97, 116], a.pv, b.pv]
def Tm.dep : Tm → Nat
  | .nm _ => 0
  | .num _ => 0
  | .fn _ b => b.dep + 1
  | .ap a b => max a.dep b.dep + 1
/-- the store grown; the dice at p stay dice -/
structure Grow (p : Nat) (S S' : Store) : Prop where
  len : S.length ≤ S'.length
  old : ∀ l, l < S.length → l ≠ p → S'[l]? = S[l]?
  dice : ∃ a b f : Int, S'[p]? = some (.lst [.int a, .int b, .int f])
theorem Grow.trans {p : Nat} {S S1 S2 : Store} (a : Grow p S S1) (b : Grow p S1 S2) : Grow p S S2 :=
  ⟨Nat.le_trans a.len b.len, fun l h n => (b.old l (Nat.lt_of_lt_of_le h a.len) n).trans (a.old l h n), b.dice⟩
theorem Grow.get {p l : Nat} {S S1 : Store} {o : SO} (a : Grow p S S1) (n : l ≠ p) (h : S[l]? = some o) : S1[l]? = some o := (a.old l (List.getElem?_eq_some_iff.mp h).1 n).trans h
theorem Grow.refl {p : Nat} {S : Store} {a b f : Int} (h : S[p]? = some (.lst [.int a, .int b, .int f])) : Grow p S S := ⟨Nat.le_refl _, fun _ _ _ => rfl, _, _, _, h⟩
theorem Grow.push {p : Nat} {S S1 : Store} (g : Grow p S S1) (o : SO) : Grow p S (S1 ++ [o]) := by
  obtain ⟨a, b, f, h⟩ := g.dice
  have up : ∀ {l : Nat}, l < S1.length → (S1 ++ [o])[l]? = S1[l]? := fun h => List.getElem?_append_left h
  refine ⟨by rw [List.length_append]; exact Nat.le_trans g.len (Nat.le_add_right _ _), fun l hl n => (up (Nat.lt_of_lt_of_le hl g.len)).trans (g.old l hl n), a, b, f, ?_⟩
  rw [up (List.getElem?_eq_some_iff.mp h).1]; exact h
theorem roll_c {d : Nat} {S : Store} {p : Nat} {many : Int} (g : ∃ a b f : Int, S[p]? = some (.lst [.int a, .int b, .int f])) (h1 : 0 < many) (h2 : many ≤ 100000000) : WE (callF (d + 1) 20 ([.loc p, .int many] ++ []) S) (fun v S' => ∃ r : Int, 0 ≤ r ∧ r < many ∧ v = .int r ∧ Grow p S S') := by
  obtain ⟨a, b, f, h⟩ := g
  refine WE.imp (show WE (runB 3 (b20 (callF d) (lamP d)) [.loc p, .int many] S) (RollPost S p many) from roll_b _ _ h h1 h2) ?_
  rintro v S' ⟨r, a', b', f', q1, q2, rfl, rfl⟩
  exact ⟨r, q1, q2, rfl, ⟨by rw [List.length_set]; exact Nat.le_refl _, fun l hl n => List.getElem?_set_ne (Ne.symm n), _, _, _, get_set h⟩⟩
theorem ltI (i j : Int) (S : Store) : ltP (.int i) (.int j) S = some (.bl (decide (i < j)), S) := rfl
theorem ixL {S : Store} {l : Nat} {xs : List PV} {i : Int} {v : PV} (h : S[l]? = some (.lst xs)) (e : atI xs i = some v) : ixP (.loc l) (.int i) S = some (v, S) := by
  unfold ixP
  simp only [h, e]
theorem addL {S : Store} {l k : Nat} {xs ys : List PV} (h1 : S[l]? = some (.lst xs)) (h2 : S[k]? = some (.lst ys)) (hl : xs.length + ys.length ≤ LINE) : addP (.loc l) (.loc k) S = some (.loc S.length, S ++ [.lst (xs ++ ys)]) := by
  unfold addP
  simp only [h1, h2, if_pos hl]
theorem lenL {S : Store} {l : Nat} {xs : List PV} (h1 : S[l]? = some (.lst xs)) : lenP [.loc l] S = some (.int xs.length, S) := by
  unfold lenP
  simp only [h1]
theorem lastS {S : Store} {o : SO} : (S ++ [o])[S.length]? = some o := by rw [List.getElem?_append_right (Nat.le_refl _), Nat.sub_self]; rfl
abbrev free2 : List PV := [.str [119, 49], .str [118, 95]]
def leafF (c : Oracle) : SF := (sSeq (sRet (eIf (bCmp gtP (eCall c 20 2 [] (eCons (eVar 0) (eCons (eC (.int 9)) eNil))) (eC (.int 0))) (eBin ixP (eBin addP (eLst (eCons (eC (.str [120])) (eCons (eC (.str [121])) (eCons (eC (.str [122])) eNil)))) (eVar 2)) (eCall c 20 2 [] (eCons (eVar 0) (eCons (eBin addP (eC (.int 3)) (eCl lenP (eCons (eVar 2) eNil))) eNil)))) (eCall c 20 2 [] (eCons (eVar 0) (eCons (eC (.int 9)) eNil))))) sNil)
theorem nm5 {r : Int} (h0 : 0 ≤ r) (h5 : r < 5) : ∃ n : Nm, atI ([.str [120], .str [121], .str [122]] ++ free2) r = some (.str n.s) := by
  have : r = 0 ∨ r = 1 ∨ r = 2 ∨ r = 3 ∨ r = 4 := by omega
  rcases this with rfl | rfl | rfl | rfl | rfl
  · exact ⟨.x, rfl⟩
  · exact ⟨.y, rfl⟩
  · exact ⟨.z, rfl⟩
  · exact ⟨.w, rfl⟩
  · exact ⟨.v, rfl⟩
theorem nm4 {r : Int} (h0 : 0 ≤ r) (h5 : r < 4) : ∃ n : Nm, atI [PV.str [120], .str [121], .str [122], .str [117]] r = some (.str n.s) := by
  have : r = 0 ∨ r = 1 ∨ r = 2 ∨ r = 3 := by omega
  rcases this with rfl | rfl | rfl | rfl
  · exact ⟨.x, rfl⟩
  · exact ⟨.y, rfl⟩
  · exact ⟨.z, rfl⟩
  · exact ⟨.u, rfl⟩
theorem leaf_s {e : Nat} {S : Store} {p q : Nat} {deep : Nat} {x y : Option PV} {Q : Fl → Store → Prop} (ne : p ≠ q) (hp : ∃ a b f : Int, S[p]? = some (.lst [.int a, .int b, .int f])) (hq : S[q]? = some (.lst free2))
    (hQ : ∀ (t : Tm) S', t.dep = 0 → Grow p S S' → Q (.rt t.pv) S') : WS (leafF (callF (e + 1)) [some (.loc p), some (.int deep), some (.loc q), x, y] S) Q := by
  unfold leafF
  walk_at "ev"
  refine ⟨rfl, (roll_c hp (by decide) (by decide)).imp ?_⟩
  rintro _ S1 ⟨r, r0, r9, rfl, g1⟩
  walk_at "ev"
  refine ⟨decide (0 < r), S1, rfl, ?_⟩
  by_cases hr : 0 < r
  · rw [if_pos (decide_eq_true hr)]
    walk_at "ev"
    refine ⟨by show 3 ≤ LINE; decide, ?_⟩
    have g2 := g1.push (.lst [.str [120], .str [121], .str [122]])
    walk_at "ev"
    refine .mk (addL lastS (g2.get (Ne.symm ne) hq) (by show 5 ≤ LINE; decide)) ?_
    have g3 := g2.push (.lst ([.str [120], .str [121], .str [122]] ++ free2))
    walk_at "ev"
    refine .mk (lenL (g3.get (Ne.symm ne) hq)) ?_
    walk_at "ev"
    refine .mk rfl ?_
    walk_at "ev"
    refine ⟨rfl, (roll_c g3.dice (by decide) (by decide)).imp ?_⟩
    rintro _ S4 ⟨r2, r20, r25, rfl, g4⟩
    obtain ⟨n, hn⟩ := nm5 r20 r25
    have hne : (S1 ++ [SO.lst [.str [120], .str [121], .str [122]]]).length ≠ p := by
      obtain ⟨a, b, f, hd⟩ := g2.dice
      exact Nat.ne_of_gt (List.getElem?_eq_some_iff.mp hd).1
    refine .mk (ixL (g4.get hne lastS) hn) ?_
    exact hQ (.nm n) _ rfl (g3.trans g4)
  · rw [if_neg (by rw [decide_eq_true_eq]; exact hr)]
    walk_at "ev"
    refine ⟨rfl, (roll_c g1.dice (by decide) (by decide)).imp ?_⟩
    rintro _ S2 ⟨r2, r20, r29, rfl, g2⟩
    have := hQ (.num ⟨r2.toNat, by omega⟩) S2 rfl (g1.trans g2)
    have e9 : ((r2.toNat : Nat) : Int) = r2 := Int.toNat_of_nonneg r20
    simp only [Tm.pv] at this
    rw [e9] at this
    exact this
theorem term_s : ∀ (deep d : Nat) (S : Store) (p q : Nat), deep < d → p ≠ q → (∃ a b f : Int, S[p]? = some (.lst [.int a, .int b, .int f])) → S[q]? = some (.lst free2) →
    WE (callF (d + 1) 23 [.loc p, .int deep, .loc q] S) (fun v S' => ∃ t : Tm, t.dep ≤ deep ∧ v = t.pv ∧ Grow p S S') := by
  intro deep
  induction deep with
  | zero =>
    intro d S p q hd ne hp hq
    obtain ⟨e, rfl⟩ : ∃ e, d = e + 1 := ⟨d - 1, by omega⟩
    refine wRun (n := 5) (f := b23 (callF (e + 1)) (lamP (e + 1))) ?_
    unfold b23
    walk_at "ev"
    refine ⟨false, S, rfl, ?_⟩
    rw [if_neg Bool.false_ne_true]
    walk_at "ev"
    refine ⟨rfl, (roll_c hp (by decide) (by decide)).imp ?_⟩
    rintro _ S1 ⟨r, r0, r3, rfl, g1⟩
    walk_at "ev"
    refine ⟨decide (r < 3), S1, rfl, ?_⟩
    rw [if_pos (decide_eq_true r3)]
    exact leaf_s ne g1.dice (g1.get (Ne.symm ne) hq) fun t S' h g => ⟨t, Nat.le_of_eq h, rfl, g1.trans g⟩
  | succ n ih =>
    intro d S p q hd ne hp hq
    obtain ⟨e, rfl⟩ : ∃ e, d = e + 1 := ⟨d - 1, by omega⟩
    refine wRun (n := 5) (f := b23 (callF (e + 1)) (lamP (e + 1))) ?_
    unfold b23
    walk_at "ev"
    refine ⟨true, S, by show some (PV.bl (decide ((0 : Int) < ((n + 1 : Nat) : Int))), S) = _; rw [decide_eq_true (by omega)], ?_⟩
    rw [if_pos rfl]
    walk_at "ev"
    refine ⟨rfl, (roll_c hp (by decide) (by decide)).imp ?_⟩
    rintro _ S1 ⟨r, r0, r9, rfl, g1⟩
    have hq1 := g1.get (Ne.symm ne) hq
    have en : ((n + 1 : Nat) : Int) - 1 = (n : Int) := by omega
    walk_at "ev"
    refine ⟨decide (r < 3), S1, rfl, ?_⟩
    by_cases r3 : r < 3
    · rw [if_pos (decide_eq_true r3)]
      exact leaf_s ne g1.dice hq1 fun t S' h g => ⟨t, by omega, rfl, g1.trans g⟩
    · rw [if_neg (by rw [decide_eq_true_eq]; exact r3)]
      walk_at "ev"
      refine ⟨decide (r < 6), S1, rfl, ?_⟩
      by_cases r6 : r < 6
      · rw [if_pos (decide_eq_true r6)]
        walk_at "ev"
        refine ⟨by show 4 ≤ LINE; decide, ?_⟩
        have g2 := g1.push (.lst [.str [120], .str [121], .str [122], .str [117]])
        walk_at "ev"
        refine ⟨rfl, (roll_c g2.dice (by decide) (by decide)).imp ?_⟩
        rintro _ S3 ⟨r2, r20, r24, rfl, g3⟩
        obtain ⟨m, hm⟩ := nm4 r20 r24
        have hne : S1.length ≠ p := by
          obtain ⟨a, b, f, hd⟩ := g1.dice
          exact Nat.ne_of_gt (List.getElem?_eq_some_iff.mp hd).1
        refine .mk (ixL (g3.get hne lastS) hm) ?_
        walk_at "ev"
        refine .mk rfl ?_
        walk_at "ev"
        refine ⟨rfl, ?_⟩
        have := ih e S3 p q (by omega) ne g3.dice ((g2.trans g3).get (Ne.symm ne) hq)
        rw [← en] at this
        refine WE.imp this ?_
        rintro _ S4 ⟨t, ht, rfl, g4⟩
        walk_at "ev"
        refine ⟨by show 3 ≤ LINE; decide, ?_⟩
        exact ⟨.fn m t, by show t.dep + 1 ≤ n + 1; omega, rfl, (g2.trans g3).trans g4⟩
      · rw [if_neg (by rw [decide_eq_true_eq]; exact r6)]
        walk_at "ev"
        refine .mk rfl ?_
        walk_at "ev"
        refine ⟨rfl, ?_⟩
        have := ih e S1 p q (by omega) ne g1.dice hq1
        rw [← en] at this
        refine WE.imp this ?_
        rintro _ S2 ⟨t, ht, rfl, g2⟩
        walk_at "ev"
        refine .mk rfl ?_
        walk_at "ev"
        refine ⟨rfl, ?_⟩
        have := ih e S2 p q (by omega) ne g2.dice (g2.get (Ne.symm ne) hq1)
        rw [← en] at this
        refine WE.imp this ?_
        rintro _ S3 ⟨t2, ht2, rfl, g3⟩
        walk_at "ev"
        refine ⟨by show 3 ≤ LINE; decide, ?_⟩
        exact ⟨.ap t t2, by show max t.dep t2.dep + 1 ≤ n + 1; omega, rfl, (g1.trans g2).trans g3⟩

theorem itT {c : Bool} {A B : Prop} (h : c = true) (a : A) : if c = true then A else B := by rw [if_pos h]; exact a
theorem itF {c : Bool} {A B : Prop} (h : c = false) (b : B) : if c = true then A else B := by rw [if_neg (by rw [h]; exact Bool.false_ne_true)]; exact b
local macro_rules | `(tactic| walk_at "evr") => `(tactic| (repeat first
  | (first
  | refine wVar rfl ?_ | refine wC ?_ | refine wNil ?_ | refine wCons ?_ | refine wBin ?_ | refine wUn ?_ | refine wCl ?_ | refine wTup ?_ | refine wLst ?_ | refine wIf ?_ | refine wIs ?_ | refine wCall ?_ | refine wDn ?_ | refine wNot ?_ | refine wAppd ?_ | refine wM1 ?_ | refine wSl ?_ | refine oNo_ ?_ | refine oSo_ ?_
  | refine wbCmp ?_ | refine wbTru ?_ | refine wbNot ?_ | refine wbAnd ?_ | refine wbOr ?_ | refine wB ?_
  | refine wsSeq ?_ | refine wsNil ?_ | refine wsRet ?_ | refine wsExpr ?_ | refine wsIf ?_ | refine wsSet ?_ | refine wsAsg ?_ | refine wsPar ?_ | refine wsAug rfl ?_) | refine WO.mk rfl ?_ | refine itT rfl ?_ | refine itF rfl ?_ | refine ⟨_, _, rfl, ?_⟩ | refine ⟨_, rfl, ?_⟩ | refine ⟨rfl, ?_⟩))
theorem cf0 (d vs S) : callF (d + 1) 0 vs S = runB 4 (b0 (callF d) (lamP d)) vs S := rfl
theorem cf1 (d vs S) : callF (d + 1) 1 vs S = runB 1 (b1 (callF d) (lamP d)) vs S := rfl
theorem cf2 (d vs S) : callF (d + 1) 2 vs S = runB 1 (b2 (callF d) (lamP d)) vs S := rfl
theorem cf3 (d vs S) : callF (d + 1) 3 vs S = runB 4 (b3 (callF d) (lamP d)) vs S := rfl
theorem cf4 (d vs S) : callF (d + 1) 4 vs S = runB 5 (b4 (callF d) (lamP d)) vs S := rfl
theorem cf5 (d vs S) : callF (d + 1) 5 vs S = runB 9 (b5 (callF d) (lamP d)) vs S := rfl
theorem cf6 (d vs S) : callF (d + 1) 6 vs S = runB 2 (b6 (callF d) (lamP d)) vs S := rfl
theorem cf7 (d vs S) : callF (d + 1) 7 vs S = runB 1 (b7 (callF d) (lamP d)) vs S := rfl
theorem cf8 (d vs S) : callF (d + 1) 8 vs S = runB 5 (b8 (callF d) (lamP d)) vs S := rfl
theorem cf9 (d vs S) : callF (d + 1) 9 vs S = runB 3 (b9 (callF d) (lamP d)) vs S := rfl
theorem cf10 (d vs S) : callF (d + 1) 10 vs S = runB 3 (b10 (callF d) (lamP d)) vs S := rfl
theorem cf11 (d vs S) : callF (d + 1) 11 vs S = runB 1 (b11 (callF d) (lamP d)) vs S := rfl
theorem cf12 (d vs S) : callF (d + 1) 12 vs S = runB 1 (b12 (callF d) (lamP d)) vs S := rfl
theorem cf13 (d vs S) : callF (d + 1) 13 vs S = runB 2 (b13 (callF d) (lamP d)) vs S := rfl
theorem cf14 (d vs S) : callF (d + 1) 14 vs S = runB 3 (b14 (callF d) (lamP d)) vs S := rfl
theorem cf15 (d vs S) : callF (d + 1) 15 vs S = runB 3 (b15 (callF d) (lamP d)) vs S := rfl
theorem cf16 (d vs S) : callF (d + 1) 16 vs S = runB 1 (b16 (callF d) (lamP d)) vs S := rfl
theorem cf17 (d vs S) : callF (d + 1) 17 vs S = runB 1 (b17 (callF d) (lamP d)) vs S := rfl
theorem cf18 (d vs S) : callF (d + 1) 18 vs S = runB 1 (b18 (callF d) (lamP d)) vs S := rfl
theorem cf19 (d vs S) : callF (d + 1) 19 vs S = runB 1 (b19 (callF d) (lamP d)) vs S := rfl
theorem cf20 (d vs S) : callF (d + 1) 20 vs S = runB 3 (b20 (callF d) (lamP d)) vs S := rfl
theorem cf21 (d vs S) : callF (d + 1) 21 vs S = runB 4 (b21 (callF d) (lamP d)) vs S := rfl
theorem cf22 (d vs S) : callF (d + 1) 22 vs S = runB 1 (b22 (callF d) (lamP d)) vs S := rfl
theorem cf23 (d vs S) : callF (d + 1) 23 vs S = runB 5 (b23 (callF d) (lamP d)) vs S := rfl
theorem cf24 (d vs S) : callF (d + 1) 24 vs S = runB 1 (b24 (callF d) (lamP d)) vs S := rfl
theorem cf25 (d vs S) : callF (d + 1) 25 vs S = runB 4 (b25 (callF d) (lamP d)) vs S := rfl
theorem cf26 (d vs S) : callF (d + 1) 26 vs S = runB 3 (b26 (callF d) (lamP d)) vs S := rfl
theorem cf27 (d vs S) : callF (d + 1) 27 vs S = runB 2 (b27 (callF d) (lamP d)) vs S := rfl
theorem cf28 (d vs S) : callF (d + 1) 28 vs S = runB 1 (b28 (callF d) (lamP d)) vs S := rfl
theorem cf29 (d vs S) : callF (d + 1) 29 vs S = runB 1 (b29 (callF d) (lamP d)) vs S := rfl
theorem cf30 (d vs S) : callF (d + 1) 30 vs S = runB 3 (b30 (callF d) (lamP d)) vs S := rfl
theorem cf31 (d vs S) : callF (d + 1) 31 vs S = runB 6 (b31 (callF d) (lamP d)) vs S := rfl
theorem cf32 (d vs S) : callF (d + 1) 32 vs S = runB 10 (b32 (callF d) (lamP d)) vs S := rfl
def Tm.size : Tm → Nat
  | .nm _ => 1
  | .num _ => 1
  | .fn _ b => 1 + b.size
  | .ap a b => 1 + b.size + a.size
def Pure (c : Oracle) (i : Nat) (args : List PV) (v : PV) : Prop := ∀ S, WE (c i args S) (fun w S' => w = v ∧ S' = S)
theorem Pure.use {c : Oracle} {i : Nat} {args : List PV} {v : PV} {S : Store} {Q : PV → Store → Prop} (h : Pure c i args v) (q : Q v S) : WE (c i args S) Q := (h S).imp fun w S' ⟨e1, e2⟩ => by subst e1 e2; exact q
theorem Pure.of {d i : Nat} {args : List PV} {v : PV} {n : Nat} {f : SF} (h : ∀ S, callF (d + 1) i args S = runB n f args S) (k : ∀ S, WE (runB n f args S) (fun w S' => w = v ∧ S' = S)) : Pure (callF (d + 1)) i args v := fun S => by rw [h]; exact k S
theorem size_s : ∀ (t : Tm) (d : Nat), t.dep < d → Pure (callF d) 11 [t.pv] (.int t.size)
  | t, 0, h => absurd h (Nat.not_lt_zero _)
  | .nm n, e + 1, hd => .of (cf11 e _) fun S => by
    refine wRun ?_
    unfold b11
    walk_at "evr"
    rfl
  | .num k, e + 1, hd => .of (cf11 e _) fun S => by
    refine wRun ?_
    unfold b11
    walk_at "evr"
    rfl
  | .fn m b, e + 1, hd => .of (cf11 e _) fun S => by
    have hb : b.dep < e := by have : b.dep + 1 < e + 1 := hd; omega
    refine wRun ?_
    unfold b11
    walk_at "evr"
    refine (size_s b e hb).use ?_
    walk_at "evr"
    rfl
  | .ap a b, e + 1, hd => .of (cf11 e _) fun S => by
    have hb : max a.dep b.dep < e := by have : max a.dep b.dep + 1 < e + 1 := hd; omega
    refine wRun ?_
    unfold b11
    walk_at "evr"
    refine (size_s b e (by omega)).use ?_
    walk_at "evr"
    refine (size_s a e (by omega)).use ?_
    walk_at "evr"
    rfl
/-- the parts, the outer ahead -/
def Tm.parts : Tm → List Tm
  | .nm n => [.nm n]
  | .num k => [.num k]
  | .fn m b => .fn m b :: b.parts
  | .ap a b => .ap a b :: (a.parts ++ b.parts)
theorem Tm.parts_len : ∀ t : Tm, t.parts.length = t.size
  | .nm _ => rfl
  | .num _ => rfl
  | .fn m b => by show b.parts.length + 1 = 1 + b.size; rw [b.parts_len]; omega
  | .ap a b => by show (a.parts ++ b.parts).length + 1 = 1 + b.size + a.size; rw [List.length_append, a.parts_len, b.parts_len]; omega
theorem Tm.size_dep : ∀ t : Tm, t.size < 2 ^ (t.dep + 1)
  | .nm _ => by show 1 < 2 ^ 1; decide
  | .num _ => by show 1 < 2 ^ 1; decide
  | .fn m b => by
    have := b.size_dep
    show 1 + b.size < 2 ^ (b.dep + 1 + 1)
    rw [Nat.pow_succ]; omega
  | .ap a b => by
    have h1 := a.size_dep
    have h2 := b.size_dep
    have m1 : 2 ^ (a.dep + 1) ≤ 2 ^ (max a.dep b.dep + 1) := Nat.pow_le_pow_right (by decide) (by omega)
    have m2 : 2 ^ (b.dep + 1) ≤ 2 ^ (max a.dep b.dep + 1) := Nat.pow_le_pow_right (by decide) (by omega)
    show 1 + b.size + a.size < 2 ^ (max a.dep b.dep + 1 + 1)
    rw [Nat.pow_succ 2 (max a.dep b.dep + 1)]; omega
theorem depth_s : ∀ (t : Tm) (d : Nat), t.dep < d → Pure (callF d) 12 [t.pv] (.int t.dep)
  | t, 0, h => absurd h (Nat.not_lt_zero _)
  | .nm n, e + 1, hd => .of (cf12 e _) fun S => by
    refine wRun ?_
    unfold b12
    walk_at "evr"
    rfl
  | .num k, e + 1, hd => .of (cf12 e _) fun S => by
    refine wRun ?_
    unfold b12
    walk_at "evr"
    rfl
  | .fn m b, e + 1, hd => .of (cf12 e _) fun S => by
    have hb : b.dep < e := by have : b.dep + 1 < e + 1 := hd; omega
    refine wRun ?_
    unfold b12
    walk_at "evr"
    refine (depth_s b e hb).use ?_
    walk_at "evr"
    refine ⟨?_, rfl⟩
    show PV.int (1 + if (0 : Int) > (b.dep : Int) then 0 else (b.dep : Int)) = PV.int ((b.dep + 1 : Nat) : Int)
    rw [if_neg (by omega)]
    congr 1
    omega
  | .ap a b, e + 1, hd => .of (cf12 e _) fun S => by
    have hb : max a.dep b.dep < e := by have : max a.dep b.dep + 1 < e + 1 := hd; omega
    refine wRun ?_
    unfold b12
    walk_at "evr"
    refine (depth_s b e (by omega)).use ?_
    walk_at "evr"
    refine (depth_s a e (by omega)).use ?_
    walk_at "evr"
    refine ⟨?_, rfl⟩
    show PV.int (1 + if (a.dep : Int) > (b.dep : Int) then (a.dep : Int) else (b.dep : Int)) = PV.int ((max a.dep b.dep + 1 : Nat) : Int)
    congr 1
    split <;> omega

theorem addT {xs ys : List PV} {S : Store} (h : xs.length + ys.length ≤ LINE) : addP (.tup xs) (.tup ys) S = some (.tup (xs ++ ys), S) := if_pos h
theorem Tm.parts_le {t : Tm} (h : t.dep ≤ 10) : t.parts.length < 2048 := by
  rw [t.parts_len]
  refine Nat.lt_of_lt_of_le t.size_dep ?_
  have : 2 ^ (t.dep + 1) ≤ 2 ^ 11 := Nat.pow_le_pow_right (by decide) (by omega)
  exact this
theorem small {n : Nat} (h : n ≤ 100000) : n ≤ LINE := Nat.le_trans h (by decide)
theorem within_s : ∀ (t : Tm) (d : Nat), t.dep < d → t.dep ≤ 10 → Pure (callF d) 16 [t.pv] (.tup (t.parts.map Tm.pv))
  | t, 0, h, _ => absurd h (Nat.not_lt_zero _)
  | .nm n, e + 1, hd, _ => .of (cf16 e _) fun S => by
    refine wRun ?_
    unfold b16
    walk_at "evr"
    refine ⟨by show 1 ≤ LINE; decide, rfl, rfl⟩
  | .num k, e + 1, hd, _ => .of (cf16 e _) fun S => by
    refine wRun ?_
    unfold b16
    walk_at "evr"
    refine ⟨by show 1 ≤ LINE; decide, rfl, rfl⟩
  | .fn m b, e + 1, hd, h10 => .of (cf16 e _) fun S => by
    have hb : b.dep < e := by have : b.dep + 1 < e + 1 := hd; omega
    have hs : b.dep ≤ 10 := by have : b.dep + 1 ≤ 10 := h10; omega
    have hl := Tm.parts_le hs
    refine wRun ?_
    unfold b16
    walk_at "evr"
    refine ⟨by show 1 ≤ LINE; decide, ?_⟩
    walk_at "evr"
    refine (within_s b e hb hs).use ?_
    refine .mk (addT (by rw [List.length_map]; exact small (by show 1 + b.parts.length ≤ 100000; omega))) ?_
    exact ⟨rfl, rfl⟩
  | .ap a b, e + 1, hd, h10 => .of (cf16 e _) fun S => by
    have hb : max a.dep b.dep < e := by have : max a.dep b.dep + 1 < e + 1 := hd; omega
    have hs : max a.dep b.dep ≤ 10 := by have : max a.dep b.dep + 1 ≤ 10 := h10; omega
    have hl1 := Tm.parts_le (t := a) (by omega)
    have hl2 := Tm.parts_le (t := b) (by omega)
    refine wRun ?_
    unfold b16
    walk_at "evr"
    refine ⟨by show 1 ≤ LINE; decide, ?_⟩
    walk_at "evr"
    refine (within_s a e (by omega) (by omega)).use ?_
    refine .mk (addT (by rw [List.length_map]; exact small (by show 1 + a.parts.length ≤ 100000; omega))) ?_
    walk_at "evr"
    refine (within_s b e (by omega) (by omega)).use ?_
    refine .mk (addT (by rw [List.length_append, List.length_map, List.length_map]; exact small (by show 1 + a.parts.length + b.parts.length ≤ 100000; omega))) ?_
    refine ⟨?_, rfl⟩
    show PV.tup (([(Tm.ap a b).pv] ++ a.parts.map Tm.pv) ++ b.parts.map Tm.pv) = PV.tup (((Tm.ap a b) :: (a.parts ++ b.parts)).map Tm.pv)
    rw [List.map_cons, List.map_append, List.append_assoc]
    rfl
/-- a new list, the store grown by what is left lying -/
def NewL (c : Oracle) (i : Nat) (args : List PV) (xs : List PV) : Prop := ∀ S, WE (c i args S) (fun w S' => ∃ l J, w = .loc l ∧ S' = S ++ J ∧ S.length ≤ l ∧ S'[l]? = some (.lst xs))
theorem NewL.use {c : Oracle} {i : Nat} {args xs : List PV} {S : Store} {Q : PV → Store → Prop} (h : NewL c i args xs) (q : ∀ l J, S.length ≤ l → (S ++ J)[l]? = some (.lst xs) → Q (.loc l) (S ++ J)) : WE (c i args S) Q := (h S).imp fun w S' ⟨l, J, e1, e2, h1, h2⟩ => by subst e1 e2; exact q l J h1 h2
theorem grown {S J : Store} {l : Nat} {o : SO} (h : S[l]? = some o) : (S ++ J)[l]? = some o := by
  rw [List.getElem?_append_left (List.getElem?_eq_some_iff.mp h).1]; exact h
theorem lwithin_s : ∀ (t : Tm) (d : Nat), t.dep < d → t.dep ≤ 10 → NewL (callF d) 28 [t.pv] (t.parts.map Tm.pv)
  | t, 0, h, _ => absurd h (Nat.not_lt_zero _)
  | .nm n, e + 1, hd, _ => fun S => by
    rw [cf28]
    refine wRun ?_
    unfold b28
    walk_at "evr"
    refine ⟨by show 1 ≤ LINE; decide, _, [.lst [(Tm.nm n).pv]], rfl, rfl, Nat.le_refl _, lastS⟩
  | .num n, e + 1, hd, _ => fun S => by
    rw [cf28]
    refine wRun ?_
    unfold b28
    walk_at "evr"
    refine ⟨by show 1 ≤ LINE; decide, _, [.lst [(Tm.num n).pv]], rfl, rfl, Nat.le_refl _, lastS⟩
  | .fn m b, e + 1, hd, h10 => fun S => by
    have hb : b.dep < e := by have : b.dep + 1 < e + 1 := hd; omega
    have hs : b.dep ≤ 10 := by have : b.dep + 1 ≤ 10 := h10; omega
    have hl := Tm.parts_le hs
    rw [cf28]
    refine wRun ?_
    unfold b28
    walk_at "evr"
    refine ⟨by show 1 ≤ LINE; decide, ?_⟩
    walk_at "evr"
    refine ⟨by show 0 ≤ LINE; decide, ?_⟩
    refine .mk (addL (grown lastS) lastS (by show 1 ≤ LINE; decide)) ?_
    walk_at "evr"
    refine (lwithin_s b e hb hs).use fun l J h1 h2 => ?_
    refine .mk (addL (grown lastS) h2 (by rw [List.length_map]; exact small (by show 1 + b.parts.length ≤ 100000; omega))) ?_
    refine ⟨_, _, rfl, by simp only [List.append_assoc]; rfl, ?_, lastS⟩
    simp only [List.length_append]
    omega
  | .ap a b, e + 1, hd, h10 => fun S => by
    have hb : max a.dep b.dep < e := by have : max a.dep b.dep + 1 < e + 1 := hd; omega
    have hs : max a.dep b.dep ≤ 10 := by have : max a.dep b.dep + 1 ≤ 10 := h10; omega
    have hl1 := Tm.parts_le (t := a) (by omega)
    have hl2 := Tm.parts_le (t := b) (by omega)
    rw [cf28]
    refine wRun ?_
    unfold b28
    walk_at "evr"
    refine ⟨by show 1 ≤ LINE; decide, ?_⟩
    walk_at "evr"
    refine (lwithin_s a e (by omega) (by omega)).use fun l J h1 h2 => ?_
    refine .mk (addL (grown lastS) h2 (by rw [List.length_map]; exact small (by show 1 + a.parts.length ≤ 100000; omega))) ?_
    walk_at "evr"
    refine (lwithin_s b e (by omega) (by omega)).use fun l2 J2 h3 h4 => ?_
    refine .mk (addL (grown lastS) h4 (by rw [List.length_append, List.length_map, List.length_map]; exact small (by show 1 + a.parts.length + b.parts.length ≤ 100000; omega))) ?_
    refine ⟨_, _, rfl, by simp only [List.append_assoc]; rfl, ?_, ?_⟩
    · simp only [List.length_append]
      omega
    · rw [lastS]
      congr 2
      show ([(Tm.ap a b).pv] ++ a.parts.map Tm.pv) ++ b.parts.map Tm.pv = ((Tm.ap a b) :: (a.parts ++ b.parts)).map Tm.pv
      rw [List.map_cons, List.map_append, List.append_assoc]
      rfl

theorem name_s (n : Nm) (e : Nat) : Pure (callF (e + 1)) 1 [.str n.s] (.bl true) := .of (cf1 e _) fun S => by
  cases n <;> exact ⟨_, _, rfl, rfl, rfl⟩
theorem ldepth_s : ∀ (t : Tm) (d : Nat), t.dep < d → Pure (callF d) 29 [t.pv] (.int t.dep)
  | t, 0, h => absurd h (Nat.not_lt_zero _)
  | .nm n, e + 1, hd => .of (cf29 e _) fun S => by
    refine wRun ?_
    unfold b29
    walk_at "evr"
    rfl
  | .num k, e + 1, hd => .of (cf29 e _) fun S => by
    refine wRun ?_
    unfold b29
    walk_at "evr"
    rfl
  | .fn m b, e + 1, hd => .of (cf29 e _) fun S => by
    have hb : b.dep < e := by have : b.dep + 1 < e + 1 := hd; omega
    refine wRun ?_
    unfold b29
    walk_at "evr"
    refine (ldepth_s b e hb).use ?_
    walk_at "evr"
    refine ⟨?_, rfl⟩
    show PV.int (1 + if (0 : Int) > (b.dep : Int) then 0 else (b.dep : Int)) = PV.int ((b.dep + 1 : Nat) : Int)
    rw [if_neg (by omega)]
    congr 1
    omega
  | .ap a b, e + 1, hd => .of (cf29 e _) fun S => by
    have hb : max a.dep b.dep < e := by have : max a.dep b.dep + 1 < e + 1 := hd; omega
    refine wRun ?_
    unfold b29
    walk_at "evr"
    refine (ldepth_s b e (by omega)).use ?_
    walk_at "evr"
    refine (ldepth_s a e (by omega)).use ?_
    walk_at "evr"
    refine ⟨?_, rfl⟩
    show PV.int (1 + if (a.dep : Int) > (b.dep : Int) then (a.dep : Int) else (b.dep : Int)) = PV.int ((max a.dep b.dep + 1 : Nat) : Int)
    congr 1
    split <;> omega
theorem check_s : ∀ (t : Tm) (d : Nat) (k : Nat), t.dep + 1 < d → k + t.dep ≤ 60 → Pure (callF d) 6 [t.pv, .int k] .non
  | t, 0, k, h, _ => absurd h (Nat.not_lt_zero _)
  | t, 1, k, h, _ => absurd h (by omega)
  | .nm n, e + 2, k, hd, hk => .of (cf6 (e + 1) _) fun S => by
    have h6 : k + 0 ≤ 60 := hk
    refine wRun ?_
    unfold b6
    refine wsSeq (wsIf ?_)
    walk_at "ev"
    refine ⟨decide ((60 : Int) < k), S, rfl, itF (decide_eq_false (by omega)) ?_⟩
    walk_at "evr"
    refine (name_s n e).use ?_
    walk_at "evr"
    rfl
  | .num n, e + 2, k, hd, hk => .of (cf6 (e + 1) _) fun S => by
    have h6 : k + 0 ≤ 60 := hk
    refine wRun ?_
    unfold b6
    refine wsSeq (wsIf ?_)
    walk_at "ev"
    refine ⟨decide ((60 : Int) < k), S, rfl, itF (decide_eq_false (by omega)) ?_⟩
    walk_at "evr"
    rfl
  | .fn m b, e + 2, k, hd, hk => .of (cf6 (e + 1) _) fun S => by
    have h6 : k + (b.dep + 1) ≤ 60 := hk
    have hb : b.dep + 1 < e + 1 := by have : b.dep + 1 + 1 < e + 2 := hd; omega
    refine wRun ?_
    unfold b6
    refine wsSeq (wsIf ?_)
    walk_at "ev"
    refine ⟨decide ((60 : Int) < k), S, rfl, itF (decide_eq_false (by omega)) ?_⟩
    walk_at "evr"
    refine (name_s m e).use ?_
    walk_at "evr"
    refine (check_s b (e + 1) (k + 1) hb (by omega)).use ?_
    walk_at "evr"
    rfl
  | .ap a b, e + 2, k, hd, hk => .of (cf6 (e + 1) _) fun S => by
    have h6 : k + (max a.dep b.dep + 1) ≤ 60 := hk
    have hb : max a.dep b.dep + 1 < e + 1 := by have : max a.dep b.dep + 1 + 1 < e + 2 := hd; omega
    refine wRun ?_
    unfold b6
    refine wsSeq (wsIf ?_)
    walk_at "ev"
    refine ⟨decide ((60 : Int) < k), S, rfl, itF (decide_eq_false (by omega)) ?_⟩
    walk_at "evr"
    refine (check_s a (e + 1) (k + 1) (by omega) (by omega)).use ?_
    walk_at "evr"
    refine (check_s b (e + 1) (k + 1) (by omega) (by omega)).use ?_
    walk_at "evr"
    rfl

theorem Nm.len (n : Nm) : n.s.length ≤ 2 := by cases n <;> decide
def numS (k : Fin 9) : List Nat := [48 + k.val]
theorem istr_num : ∀ k : _root_.Fin 9, istr k.val = numS k := by decide +kernel
theorem log_num : ∀ k : _root_.Fin 9, (k.val : Int).natAbs.log2 < 1920 := by decide +kernel
theorem str_num (k : _root_.Fin 9) (S : Store) : strP [.int k.val] S = some (.str (numS k), S) := by
  show (if (k.val : Int).natAbs.log2 < 1920 then some (PV.str (istr k.val), S) else none) = _
  rw [if_pos (log_num k), istr_num]
def Tm.full : Tm → List Nat
  | .nm n => n.s
  | .num k => numS k
  | .fn m b => [40, 33] ++ m.s ++ [46] ++ b.full ++ [41]
  | .ap a b => [40] ++ a.full ++ [10] ++ b.full ++ [41]
theorem Tm.full_len : ∀ t : Tm, t.full.length ≤ 6 * t.size
  | .nm n => by have := n.len; show n.s.length ≤ 6 * 1; omega
  | .num k => by show 1 ≤ 6 * 1; omega
  | .fn m b => by
    have := b.full_len
    have := m.len
    simp only [Tm.full, List.length_append, List.length_cons, List.length_nil]
    show _ ≤ 6 * (1 + b.size)
    omega
  | .ap a b => by
    have := b.full_len
    have := a.full_len
    simp only [Tm.full, List.length_append, List.length_cons, List.length_nil]
    show _ ≤ 6 * (1 + b.size + a.size)
    omega
theorem Tm.size_le {t : Tm} (h : t.dep ≤ 10) : t.size < 2048 := by rw [← t.parts_len]; exact Tm.parts_le h
theorem addS {xs ys : List Nat} {S : Store} (h : xs.length + ys.length ≤ 100000) : addP (.str xs) (.str ys) S = some (.str (xs ++ ys), S) := if_pos (small h)
theorem full_s : ∀ (t : Tm) (d : Nat), t.dep < d → t.dep ≤ 10 → Pure (callF d) 24 [t.pv] (.str t.full)
  | t, 0, h, _ => absurd h (Nat.not_lt_zero _)
  | .nm n, e + 1, hd, _ => .of (cf24 e _) fun S => by
    refine wRun ?_
    unfold b24
    walk_at "evr"
    rfl
  | .num k, e + 1, hd, _ => .of (cf24 e _) fun S => by
    refine wRun ?_
    unfold b24
    walk_at "evr"
    refine .mk (str_num k S) ?_
    exact ⟨rfl, rfl⟩
  | .fn m b, e + 1, hd, h10 => .of (cf24 e _) fun S => by
    have hb : b.dep < e := by have : b.dep + 1 < e + 1 := hd; omega
    have hs : b.dep ≤ 10 := by have : b.dep + 1 ≤ 10 := h10; omega
    have hl := Tm.size_le hs
    have hf := b.full_len
    have hm := m.len
    refine wRun ?_
    unfold b24
    refine wsSeq (wsIf ?_)
    walk_at "evr"
    refine .mk (addS (by simp only [List.length_append, List.length_cons, List.length_nil]; omega)) ?_
    walk_at "evr"
    refine .mk (addS (by simp only [List.length_append, List.length_cons, List.length_nil]; omega)) ?_
    walk_at "evr"
    refine (full_s b e hb hs).use ?_
    refine .mk (addS (by simp only [List.length_append, List.length_cons, List.length_nil]; omega)) ?_
    walk_at "evr"
    refine .mk (addS (by simp only [List.length_append, List.length_cons, List.length_nil]; omega)) ?_
    exact ⟨rfl, rfl⟩
  | .ap a b, e + 1, hd, h10 => .of (cf24 e _) fun S => by
    have hb : max a.dep b.dep < e := by have : max a.dep b.dep + 1 < e + 1 := hd; omega
    have hs : max a.dep b.dep ≤ 10 := by have : max a.dep b.dep + 1 ≤ 10 := h10; omega
    have hl1 := Tm.size_le (t := a) (by omega)
    have hl2 := Tm.size_le (t := b) (by omega)
    have hf1 := a.full_len
    have hf2 := b.full_len
    refine wRun ?_
    unfold b24
    refine wsSeq (wsIf ?_)
    walk_at "evr"
    refine (full_s a e (by omega) (by omega)).use ?_
    refine .mk (addS (by simp only [List.length_append, List.length_cons, List.length_nil]; omega)) ?_
    walk_at "evr"
    refine .mk (addS (by simp only [List.length_append, List.length_cons, List.length_nil]; omega)) ?_
    walk_at "evr"
    refine (full_s b e (by omega) (by omega)).use ?_
    refine .mk (addS (by simp only [List.length_append, List.length_cons, List.length_nil]; omega)) ?_
    walk_at "evr"
    refine .mk (addS (by simp only [List.length_append, List.length_cons, List.length_nil]; omega)) ?_
    exact ⟨rfl, rfl⟩

inductive Wh where
  | all | first | last
def Wh.s : Wh → List Nat
  | .all => [97, 108, 108] | .first => [102, 105, 114, 115, 116] | .last => [108, 97, 115, 116]
def Wh.isAll : Wh → Bool
  | .all => true
  | _ => false
def Wh.isLast : Wh → Bool
  | .last => true
  | _ => false
def brk (c : Bool) (s : List Nat) : List Nat := if c then [40] ++ s ++ [41] else s
/-- the names behind a function's own, and the body -/
def Tm.text : Tm → Wh → List Nat
  | .nm n, _ => n.s
  | .num k, _ => numS k
  | .fn m b, w => brk (!w.isAll) ([33] ++ m.s ++ (match b with
    | .fn _ _ => [32] ++ (b.text .all).tail
    | _ => [46, 32] ++ b.text .all))
  | .ap a b, w => brk w.isLast (a.text .first ++ [32] ++ b.text .last)
theorem Tm.text_len : ∀ (t : Tm) (w : Wh), (t.text w).length ≤ 8 * t.size
  | .nm n, w => by have := n.len; show n.s.length ≤ 8 * 1; omega
  | .num k, w => by show 1 ≤ 8 * 1; omega
  | .fn m b, w => by
    have h := b.text_len .all
    have := m.len
    have e : ∀ (c : Bool) (s : List Nat), (brk c s).length ≤ s.length + 2 := fun c s => by
      unfold brk
      cases c <;> simp
    show (brk _ _).length ≤ 8 * (1 + b.size)
    refine Nat.le_trans (e _ _) ?_
    simp only [List.length_append, List.length_cons, List.length_nil]
    split <;> simp only [List.length_append, List.length_cons, List.length_nil, List.length_tail] <;> omega
  | .ap a b, w => by
    have := b.text_len .last
    have := a.text_len .first
    have e : ∀ (c : Bool) (s : List Nat), (brk c s).length ≤ s.length + 2 := fun c s => by
      unfold brk
      cases c <;> simp
    show (brk _ _).length ≤ 8 * (1 + b.size + a.size)
    refine Nat.le_trans (e _ _) ?_
    simp only [List.length_append, List.length_cons, List.length_nil]
    omega

theorem Tm.text_fn (m : Nm) (b : Tm) : ∃ r, (Tm.fn m b).text .all = 33 :: r := ⟨_, rfl⟩
def Tm.isFn : Tm → Bool
  | .fn _ _ => true
  | _ => false
theorem Tm.head : ∀ (t : Tm) (w : Wh), (t.isFn = true → w.isAll = false) → ∃ c r, t.text w = c :: r ∧ c ≠ 33 ∧ c < 128
  | .nm n, w, _ => by cases n <;> exact ⟨_, _, rfl, by decide, by decide⟩
  | .num k, w, _ => ⟨48 + k.val, [], rfl, by omega, by omega⟩
  | .fn m b, w, h => by
    have hw : w.isAll = false := h rfl
    cases w with
    | all => cases hw
    | first => exact ⟨40, _, rfl, by decide, by decide⟩
    | last => exact ⟨40, _, rfl, by decide, by decide⟩
  | .ap a b, w, h => by
    cases hw : w.isLast with
    | true =>
      cases w with
      | last => exact ⟨40, _, rfl, by decide, by decide⟩
      | all => cases hw
      | first => cases hw
    | false =>
      obtain ⟨c, r, e, h1, h2⟩ := a.head .first (fun _ => rfl)
      refine ⟨c, r ++ [32] ++ b.text .last, ?_, h1, h2⟩
      show brk w.isLast (a.text .first ++ [32] ++ b.text .last) = _
      rw [hw, e]
      rfl
theorem eqS1 {c : Nat} (h : c < 128) (S : Store) : eqP (.str [c]) (.str [33]) S = some (.bl (decide (c = 33)), S) := by
  have h1 : okS [c] = true := by
    show (decide (c < 0x110000) && true) = true
    rw [decide_eq_true (by omega)]
    rfl
  have h2 : okS [33] = true := rfl
  unfold eqP toD
  simp only [h1, h2, if_true]
  have : PyData.eqv (.str ⟨[c].toArray⟩) (.str ⟨[33].toArray⟩) = decide (c = 33) := by
    simp only [PyData.eqv]
    by_cases e : c = 33
    · subst e; rfl
    · rw [decide_eq_false e]
      apply Bool.eq_false_iff.mpr
      intro h
      apply e
      have h := eq_of_beq h
      simpa using h
  rw [this]
theorem ix0 {c : Nat} {r : List Nat} {S : Store} (h : (c :: r).length ≤ LINE) : ixP (.str (c :: r)) (.int 0) S = some (.str [c], S) := by
  have e : atI (c :: r) 0 = some c := by
    unfold atI ixN
    rw [if_pos (Int.le_refl _), if_pos (by show (0 : Int) < ((c :: r).length : Int); simp only [List.length_cons]; omega)]
    rfl
  show (if (c :: r).length ≤ LINE then (match atI (c :: r) 0 with
    | some c => some (PV.str [c], S)
    | none => none) else none) = _
  rw [if_pos h, e]

local macro_rules | `(tactic| walk_at "len") => `(tactic| ((simp only [List.length_append, List.length_cons, List.length_nil, List.length_tail]; omega)))
theorem tailS {c : Nat} {r : List Nat} {S : Store} (h : (c :: r).length ≤ LINE) : WO (slP (.str (c :: r)) (some 1) none S) (fun v S' => v = .str r ∧ S' = S) := by
  have e : cutL (c :: r) (some 1) none = r := by
    unfold cutL HT.sIx
    simp
  refine ⟨.str r, S, ?_, rfl, rfl⟩
  show (if (c :: r).length ≤ LINE then some (PV.str (cutL (c :: r) (some 1) none), S) else none) = _
  rw [if_pos h, e]
def Tm.rest (b : Tm) : List Nat := match b with
  | .fn _ _ => [32] ++ (b.text .all).tail
  | _ => [46, 32] ++ b.text .all
theorem ltext_s : ∀ (t : Tm) (w : Wh) (d : Nat), t.dep < d → t.dep ≤ 10 → Pure (callF d) 25 [t.pv, .str w.s] (.str (t.text w))
  | t, w, 0, h, _ => absurd h (Nat.not_lt_zero _)
  | .nm n, w, e + 1, hd, _ => .of (cf25 e _) fun S => by
    refine wRun ?_
    unfold b25
    walk_at "evr"
    rfl
  | .num k, w, e + 1, hd, _ => .of (cf25 e _) fun S => by
    refine wRun ?_
    unfold b25
    walk_at "evr"
    refine .mk (str_num k S) ?_
    exact ⟨rfl, rfl⟩
  | .ap a b, w, e + 1, hd, h10 => .of (cf25 e _) fun S => by
    have hb : max a.dep b.dep < e := by have : max a.dep b.dep + 1 < e + 1 := hd; omega
    have hs : max a.dep b.dep ≤ 10 := by have : max a.dep b.dep + 1 ≤ 10 := h10; omega
    have hl1 := Tm.size_le (t := a) (by omega)
    have hl2 := Tm.size_le (t := b) (by omega)
    have hf1 := a.text_len .first
    have hf2 := b.text_len .last
    refine wRun ?_
    unfold b25
    refine wsSeq (wsIf ?_)
    walk_at "evr"
    refine (ltext_s a .first e (by omega) (by omega)).use ?_
    walk_at "evr"
    refine .mk (addS (by walk_at "len")) ?_
    walk_at "evr"
    refine (ltext_s b .last e (by omega) (by omega)).use ?_
    refine .mk (addS (by walk_at "len")) ?_
    cases w with
    | all => walk_at "evr"; rfl
    | first => walk_at "evr"; rfl
    | last =>
      walk_at "evr"
      refine .mk (addS (by walk_at "len")) ?_
      walk_at "evr"
      refine .mk (addS (by walk_at "len")) ?_
      exact ⟨rfl, rfl⟩
  | .fn m b, w, e + 1, hd, h10 => .of (cf25 e _) fun S => by
    have hb : b.dep < e := by have : b.dep + 1 < e + 1 := hd; omega
    have hs : b.dep ≤ 10 := by have : b.dep + 1 ≤ 10 := h10; omega
    have hl := Tm.size_le hs
    have hf := b.text_len .all
    have hm := m.len
    refine wRun ?_
    unfold b25
    refine wsSeq (wsIf ?_)
    walk_at "evr"
    refine (ltext_s b .all e hb hs).use ?_
    have key : ∀ (QQ : PV → Store → Prop) (x : Option PV), QQ (.str b.rest) S → WE (eIf (bCmp eqP (eBin ixP (eVar 3) (eC (.int 0))) (eC (.str [33]))) (eBin addP (eC (.str [32])) (eSl (eVar 3) (oSo (eC (.int 1))) oNo)) (eBin addP (eC (.str [46, 32])) (eVar 3)) [some (Tm.fn m b).pv, some (.str w.s), x, some (.str (b.text .all))] S) QQ := by
      intro QQ x hQ
      cases hb2 : b.isFn with
      | true =>
        cases b with
        | fn m2 b2 =>
          obtain ⟨r, er⟩ := Tm.text_fn m2 b2
          have hQ : QQ (.str ([32] ++ ((Tm.fn m2 b2).text .all).tail)) S := hQ
          rw [er] at hf hQ ⊢
          have hz : (33 :: r).length ≤ LINE := small (by omega)
          walk_at "ev"
          refine .mk (ix0 hz) ?_
          walk_at "ev"
          refine ⟨_, _, eqS1 (by decide) S, itT rfl ?_⟩
          walk_at "ev"
          obtain ⟨v, S', e9, rfl, rfl⟩ := tailS (S := S) hz
          refine .mk e9 ?_
          refine .mk (addS (by simp only [List.length_cons] at hf; walk_at "len")) ?_
          exact hQ
        | _ => cases hb2
      | false =>
        obtain ⟨c, r, er, h1, h2⟩ := b.head .all (fun h => by rw [hb2] at h; cases h)
        have hz : (c :: r).length ≤ LINE := small (by rw [← er]; omega)
        have hQ2 : QQ (.str ([46, 32] ++ b.text .all)) S := by
          cases b with
          | fn _ _ => cases hb2
          | _ => exact hQ
        rw [er] at hf hQ2 ⊢
        walk_at "ev"
        refine .mk (ix0 hz) ?_
        walk_at "ev"
        refine ⟨_, _, eqS1 h2 S, itF (decide_eq_false h1) ?_⟩
        walk_at "ev"
        refine .mk (addS (by simp only [List.length_cons] at hf; walk_at "len")) ?_
        exact hQ2
    have hin : b.rest.length ≤ 8 * b.size + 2 := by
      unfold Tm.rest
      split <;> walk_at "len"
    have ht : (Tm.fn m b).text w = brk (!w.isAll) ([33] ++ m.s ++ b.rest) := by cases b <;> rfl
    rw [ht]
    walk_at "ev"
    refine .mk rfl ?_
    refine .mk (addS (by walk_at "len")) ?_
    refine key _ _ ?_
    refine .mk (addS (by simp only [List.length_append, List.length_cons, List.length_nil]; omega)) ?_
    cases w with
    | all => walk_at "evr"; rfl
    | first =>
      walk_at "evr"
      refine .mk (addS (by simp only [List.length_append, List.length_cons, List.length_nil]; omega)) ?_
      walk_at "evr"
      refine .mk (addS (by simp only [List.length_append, List.length_cons, List.length_nil]; omega)) ?_
      exact ⟨rfl, rfl⟩
    | last =>
      walk_at "evr"
      refine .mk (addS (by simp only [List.length_append, List.length_cons, List.length_nil]; omega)) ?_
      walk_at "evr"
      refine .mk (addS (by simp only [List.length_append, List.length_cons, List.length_nil]; omega)) ?_
      exact ⟨rfl, rfl⟩

/-- the names of a row of functions, what stands behind them -/
def Tm.names : Tm → List Nm
  | .fn m b => m :: b.names
  | _ => []
def Tm.core : Tm → Tm
  | .fn _ b => b.core
  | t => t
theorem Tm.core_dep : ∀ t : Tm, t.core.dep ≤ t.dep
  | .fn _ b => Nat.le_trans b.core_dep (Nat.le_succ _)
  | .nm _ => Nat.le_refl _
  | .num _ => Nat.le_refl _
  | .ap _ _ => Nat.le_refl _
theorem Tm.names_len : ∀ t : Tm, t.names.length ≤ t.dep
  | .fn _ b => Nat.succ_le_succ b.names_len
  | .nm _ => Nat.le_refl _
  | .num _ => Nat.le_refl _
  | .ap _ _ => Nat.zero_le _
def joinN : List Nm → List Nat
  | [] => []
  | [n] => n.s
  | n :: r => n.s ++ [32] ++ joinN r
theorem Tm.text_names : ∀ (m : Nm) (b : Tm), (Tm.fn m b).text .all = [33] ++ joinN (m :: b.names) ++ [46, 32] ++ b.core.text .all
  | m, .fn n b => by
    have h := Tm.text_names n b
    show [33] ++ m.s ++ ([32] ++ ((Tm.fn n b).text .all).tail) = [33] ++ (m.s ++ [32] ++ joinN (n :: b.names)) ++ [46, 32] ++ b.core.text .all
    rw [h]
    simp
  | m, .nm n => by
    show [33] ++ m.s ++ ([46, 32] ++ n.s) = [33] ++ m.s ++ [46, 32] ++ n.s
    simp
  | m, .num k => by
    show [33] ++ m.s ++ ([46, 32] ++ numS k) = [33] ++ m.s ++ [46, 32] ++ numS k
    simp
  | m, .ap a b => by
    show [33] ++ m.s ++ ([46, 32] ++ (Tm.ap a b).text .all) = [33] ++ m.s ++ [46, 32] ++ (Tm.ap a b).text .all
    simp
def whB (c : Oracle) (n : Nat) : SF := whL (bAnd (bTru (eIs ["tuple"] (eVar 4))) (bCmp eqP (eBin ixP (eVar 4) (eC (.int 0))) (eC (.str [102, 117, 110])))) (sSeq (sExpr (eAppd (eVar 3) (eCons (eBin ixP (eVar 4) (eC (.int 1))) eNil))) (sSeq (sAsg (eBin ixP (eVar 4) (eC (.int 2))) (tgN 4)) sNil)) n
theorem set_same {S : Store} {l : Nat} {o : SO} (h : S[l]? = some o) : S.set l o = S := by
  apply List.ext_getElem?
  intro j
  by_cases e : l = j
  · subst e
    rw [List.getElem?_set_self (List.getElem?_eq_some_iff.mp h).1, h]
  · rw [List.getElem?_set_ne e]
theorem wh_s (c : Oracle) : ∀ (b : Tm) (n : Nat) (S : Store) (l : Nat) (acc : List PV) (x y z : Option PV) (Q : Fl → Store → Prop), b.dep < n → S[l]? = some (.lst acc) → acc.length + b.dep ≤ 1000 →
    (∀ S', S' = S.set l (.lst (acc ++ b.names.map fun m => PV.str m.s)) → Q (.nx [x, y, z, some (.loc l), some b.core.pv]) S') → WS (whB c n [x, y, z, some (.loc l), some b.pv] S) Q
  | b, 0, S, l, acc, x, y, z, Q, h, _, _, _ => absurd h (Nat.not_lt_zero _)
  | .nm n, k + 1, S, l, acc, x, y, z, Q, h, hS, hl, hQ => by
    refine wwhile ?_
    walk_at "evr"
    exact hQ S (by simp only [Tm.names, List.map_nil, List.append_nil]; exact (set_same hS).symm)
  | .num n, k + 1, S, l, acc, x, y, z, Q, h, hS, hl, hQ => by
    refine wwhile ?_
    walk_at "evr"
    exact hQ S (by simp only [Tm.names, List.map_nil, List.append_nil]; exact (set_same hS).symm)
  | .ap a b, k + 1, S, l, acc, x, y, z, Q, h, hS, hl, hQ => by
    refine wwhile ?_
    walk_at "evr"
    exact hQ S (by simp only [Tm.names, List.map_nil, List.append_nil]; exact (set_same hS).symm)
  | .fn m b, k + 1, S, l, acc, x, y, z, Q, h, hS, hl, hQ => by
    have h : b.dep + 1 < k + 1 := h
    have hl : acc.length + (b.dep + 1) ≤ 1000 := hl
    refine wwhile ?_
    refine wbAnd ?_
    walk_at "evr"
    refine ⟨by unfold tyP; simp only [hS], ?_⟩
    walk_at "ev"
    refine .mk rfl ?_
    walk_at "ev"
    refine ⟨l, .str m.s, acc, rfl, rfl, hS, small (by omega), ?_⟩
    walk_at "ev"
    refine wh_s c b k _ l (acc ++ [.str m.s]) x y z Q (by omega) (get_set hS) (by rw [List.length_append]; show acc.length + 1 + b.dep ≤ 1000; omega) fun S' e => ?_
    refine hQ S' ?_
    rw [e, setS, List.append_assoc]
    rfl

theorem fmt_num (k : _root_.Fin 9) (S : Store) : fmtP (.int k.val) S = some (.str (numS k), S) := by
  show (if (k.val : Int).natAbs.log2 < 1920 then some (PV.str (istr k.val), S) else none) = _
  rw [if_pos (log_num k), istr_num]
theorem strs_names : ∀ ns : List Nm, strsOf (ns.map fun m => PV.str m.s) = some (ns.map Nm.s)
  | [] => rfl
  | n :: r => by
    show (match strsOf (r.map fun m => PV.str m.s) with
      | some l => some (n.s :: l)
      | none => none) = _
    rw [strs_names r]
    rfl
theorem join_names : ∀ ns : List Nm, TL.joinL [32] (ns.map Nm.s) = joinN ns
  | [] => rfl
  | [n] => rfl
  | n :: m :: r => by
    have h := join_names (m :: r)
    show TL.joinL [32] (n.s :: m.s :: r.map Nm.s) = n.s ++ [32] ++ joinN (m :: r)
    rw [← h]
    simp [TL.joinL]
theorem sum_names : ∀ ns : List Nm, ((ns.map Nm.s).map List.length).sum ≤ 2 * ns.length
  | [] => Nat.le_refl _
  | n :: r => by
    have := sum_names r
    have := n.len
    simp only [List.map_cons, List.sum_cons, List.length_cons]
    omega
theorem join_p {S : Store} {l : Nat} {ns : List Nm} (h : S[l]? = some (.lst (ns.map fun m => PV.str m.s))) (hl : ns.length ≤ 1000) : joinP (.str [32]) (.loc l) S = some (.str (joinN ns), S) := by
  have e : seqOf S (.loc l) = some (ns.map fun m => PV.str m.s) := by
    unfold seqOf Ev.listAt
    simp only [h]
  have hs := sum_names ns
  unfold joinP
  simp only [e, strs_names]
  rw [if_pos (by rw [List.length_map]; exact small (by simp only [List.length_cons, List.length_nil]; omega)), join_names]

/-- the same value, the store only grown -/
def PureJ (c : Oracle) (i : Nat) (args : List PV) (v : PV) : Prop := ∀ S, WE (c i args S) (fun w S' => w = v ∧ ∃ J, S' = S ++ J)
theorem PureJ.use {c : Oracle} {i : Nat} {args : List PV} {v : PV} {S : Store} {Q : PV → Store → Prop} (h : PureJ c i args v) (q : ∀ J, Q v (S ++ J)) : WE (c i args S) Q := (h S).imp fun w S' ⟨e1, J, e2⟩ => by subst e1 e2; exact q J
theorem PureJ.of {d i : Nat} {args : List PV} {v : PV} {n : Nat} {f : SF} (h : ∀ S, callF (d + 1) i args S = runB n f args S) (k : ∀ S, WE (runB n f args S) (fun w S' => w = v ∧ ∃ J, S' = S ++ J)) : PureJ (callF (d + 1)) i args v := fun S => by rw [h]; exact k S
theorem told_s : ∀ (t : Tm) (w : Wh) (d : Nat), t.dep < d → t.dep ≤ 10 → PureJ (callF d) 8 [t.pv, .str w.s] (.str (t.text w))
  | t, w, 0, h, _ => absurd h (Nat.not_lt_zero _)
  | .nm n, w, e + 1, hd, _ => .of (cf8 e _) fun S => by
    refine wRun ?_
    unfold b8
    walk_at "evr"
    exact ⟨[], (List.append_nil _).symm⟩
  | .num k, w, e + 1, hd, _ => .of (cf8 e _) fun S => by
    refine wRun ?_
    unfold b8
    walk_at "evr"
    refine .mk (fmt_num k S) ?_
    exact ⟨rfl, [], (List.append_nil _).symm⟩
  | .ap a b, w, e + 1, hd, h10 => .of (cf8 e _) fun S => by
    have hb : max a.dep b.dep < e := by have : max a.dep b.dep + 1 < e + 1 := hd; omega
    have hs : max a.dep b.dep ≤ 10 := by have : max a.dep b.dep + 1 ≤ 10 := h10; omega
    have hl1 := Tm.size_le (t := a) (by omega)
    have hl2 := Tm.size_le (t := b) (by omega)
    have hf1 := a.text_len .first
    have hf2 := b.text_len .last
    refine wRun ?_
    unfold b8
    refine wsSeq (wsIf ?_)
    walk_at "evr"
    refine (told_s a .first e (by omega) (by omega)).use fun J1 => ?_
    walk_at "evr"
    refine .mk (addS (by walk_at "len")) ?_
    walk_at "evr"
    refine (told_s b .last e (by omega) (by omega)).use fun J2 => ?_
    refine .mk (addS (by walk_at "len")) ?_
    cases w with
    | all => walk_at "evr"; exact ⟨J1 ++ J2, List.append_assoc ..⟩
    | first => walk_at "evr"; exact ⟨J1 ++ J2, List.append_assoc ..⟩
    | last =>
      walk_at "evr"
      refine .mk (addS (by walk_at "len")) ?_
      walk_at "evr"
      refine .mk (addS (by walk_at "len")) ?_
      exact ⟨rfl, J1 ++ J2, List.append_assoc ..⟩
  | .fn m b, w, e + 1, hd, h10 => .of (cf8 e _) fun S => by
    have hb : b.dep < e := by have : b.dep + 1 < e + 1 := hd; omega
    have hs : b.dep ≤ 10 := by have : b.dep + 1 ≤ 10 := h10; omega
    have hc := b.core_dep
    have hn := b.names_len
    have hl := (Tm.fn m b).text_len .all
    have hz := Tm.size_le (t := Tm.fn m b) h10
    rw [Tm.text_names] at hl
    simp only [List.length_append, List.length_cons, List.length_nil] at hl
    refine wRun ?_
    unfold b8
    refine wsSeq (wsIf ?_)
    walk_at "evr"
    refine wh_s (callF e) b 100000 _ S.length [.str m.s] _ _ _ _ (by omega) lastS (by show 1 + b.dep ≤ 1000; omega) fun S' eS => ?_
    have hS : S'[S.length]? = some (.lst ((m :: b.names).map fun m => PV.str m.s)) := by rw [eS]; exact get_set lastS
    have eJ : ∃ J, S' = S ++ J := ⟨[.lst ((m :: b.names).map fun m => PV.str m.s)], by rw [eS, List.set_append_right _ _ (Nat.le_refl _), Nat.sub_self]; rfl⟩
    obtain ⟨J, eJ⟩ := eJ
    walk_at "ev"
    refine ⟨_, rfl, ?_⟩
    walk_at "ev"
    refine .mk (join_p hS (by simp only [List.length_cons]; omega)) ?_
    refine .mk (addS (by simp only [List.length_cons, List.length_nil]; omega)) ?_
    walk_at "ev"
    refine .mk (addS (by simp only [List.length_append, List.length_cons, List.length_nil]; omega)) ?_
    walk_at "ev"
    refine ⟨rfl, ?_⟩
    refine (told_s b.core .all e (by omega) (by omega)).use fun J2 => ?_
    refine .mk (addS (by simp only [List.length_append, List.length_cons, List.length_nil]; omega)) ?_
    rw [← Tm.text_names]
    have hl2 : ((Tm.fn m b).text .all).length ≤ 8 * (Tm.fn m b).size := (Tm.fn m b).text_len .all
    have eE : S' ++ J2 = S ++ (J ++ J2) := by rw [eJ, List.append_assoc]
    cases w with
    | all => walk_at "evr"; exact ⟨_, eE⟩
    | first =>
      walk_at "evr"
      refine .mk (addS (by simp only [List.length_cons, List.length_nil]; omega)) ?_
      walk_at "evr"
      refine .mk (addS (by simp only [List.length_append, List.length_cons, List.length_nil]; omega)) ?_
      exact ⟨rfl, _, eE⟩
    | last =>
      walk_at "evr"
      refine .mk (addS (by simp only [List.length_cons, List.length_nil]; omega)) ?_
      walk_at "evr"
      refine .mk (addS (by simp only [List.length_append, List.length_cons, List.length_nil]; omega)) ?_
      exact ⟨rfl, _, eE⟩

/-! equal values -/
theorem mapD_laid {f : PV → Option PyData} (ih : ∀ v d, f v = some d → d.canLay0 = true) : ∀ (xs : List PV) (ds : List PyData), mapD f xs = some ds → ∀ d ∈ ds, d.canLay0 = true
  | [], ds, e => by cases e; exact fun _ h => nomatch h
  | x :: xs, ds, e => by
    unfold mapD at e
    split at e
    · rename_i d ds e1 e2
      cases e
      intro d' hd
      rcases List.mem_cons.mp hd with rfl | hd
      · exact ih _ _ e1
      · exact mapD_laid ih xs ds e2 _ hd
    · cases e
theorem str_laid {s : List Nat} {d : PyData} (e : (if okS s then some (PyData.str ⟨s.toArray⟩) else none) = some d) : d.canLay0 = true := by
  split at e
  · rename_i hs
    cases e
    rw [PyData.canLay0]
    show s.toArray.all _ = true
    rw [List.all_toArray]; exact hs
  · cases e
theorem toD_laid (S : Store) : ∀ (n : Nat) (v : PV) (d : PyData), toD S n v = some d → d.canLay0 = true := by
  intro n
  induction n with
  | zero =>
    intro v d e
    cases v with
    | non => cases e; rfl
    | bl b => cases e; rfl
    | int i => cases e; rfl
    | str s => unfold toD at e; exact str_laid e
    | tup xs => cases e
    | loc l => cases e
  | succ n ih =>
    intro v d e
    cases v with
    | non => cases e; rfl
    | bl b => cases e; rfl
    | int i => cases e; rfl
    | str s => unfold toD at e; exact str_laid e
    | tup xs =>
      unfold toD at e
      obtain ⟨ds, e1, rfl⟩ := Option.map_eq_some_iff.mp e
      rw [PyData.canLay0]; exact canLayAll_of (mapD_laid ih xs ds e1)
    | loc l =>
      unfold toD at e
      split at e
      · obtain ⟨ds, e1, rfl⟩ := Option.map_eq_some_iff.mp e
        rw [PyData.canLay0]; exact canLayAll_of (mapD_laid ih _ ds e1)
      · obtain ⟨ds, e1, rfl⟩ := Option.map_eq_some_iff.mp e
        rw [PyData.canLay0]; exact canLayAll_of (mapD_laid ih _ ds e1)
      · cases e
theorem neSame {S : Store} {v w : PV} {d : PyData} (h1 : toD S 64 v = some d) (h2 : toD S 64 w = some d) : neP v w S = some (.bl false, S) := by
  unfold neP
  simp only [h1, h2, PySem.SeqAt.eqv_refl d (toD_laid S 64 v d h1)]
  rfl
theorem eqSame {S : Store} {v w : PV} {d : PyData} (h1 : toD S 64 v = some d) (h2 : toD S 64 w = some d) : eqP v w S = some (.bl true, S) := by
  unfold eqP
  simp only [h1, h2, PySem.SeqAt.eqv_refl d (toD_laid S 64 v d h1)]
/-- plain data, at most n deep -/
def Dat (n : Nat) (v : PV) : Prop := ∃ d, ∀ (S : Store) (m : Nat), n ≤ m → toD S m v = some d
def DatL (n : Nat) (xs : List PV) : Prop := ∃ ds, ∀ (S : Store) (m : Nat), n ≤ m → mapD (toD S m) xs = some ds
theorem DatL.of {n : Nat} : ∀ {xs : List PV}, (∀ x ∈ xs, Dat n x) → DatL n xs
  | [], _ => ⟨[], fun _ _ _ => rfl⟩
  | x :: xs, h => by
    obtain ⟨d, hd⟩ := h x (by simp)
    obtain ⟨ds, hds⟩ := DatL.of (xs := xs) fun y hy => h y (by simp [hy])
    refine ⟨d :: ds, fun S m hm => ?_⟩
    show (match toD S m x, mapD (toD S m) xs with
      | some d, some ds => some (d :: ds)
      | _, _ => none) = _
    rw [hd S m hm, hds S m hm]
theorem Dat.int (n : Nat) (i : Int) : Dat n (.int i) := ⟨.int i, fun S m _ => by cases m <;> rfl⟩
theorem Dat.bl (n : Nat) (b : Bool) : Dat n (.bl b) := ⟨.bool b, fun S m _ => by cases m <;> rfl⟩
theorem Dat.str (n : Nat) {s : List Nat} (h : okS s = true) : Dat n (.str s) := ⟨.str ⟨s.toArray⟩, fun S m _ => by
  cases m <;> (unfold toD; rw [if_pos h])⟩
theorem Dat.tup {n : Nat} {xs : List PV} (h : DatL n xs) : Dat (n + 1) (.tup xs) := by
  obtain ⟨ds, hds⟩ := h
  refine ⟨.tuple ds, fun S m hm => ?_⟩
  obtain ⟨k, rfl⟩ : ∃ k, m = k + 1 := ⟨m - 1, by omega⟩
  unfold toD
  rw [hds S k (by omega)]
  rfl
theorem Dat.le {n m : Nat} {v : PV} (h : Dat n v) (hm : n ≤ m) : Dat m v := by
  obtain ⟨d, hd⟩ := h
  exact ⟨d, fun S k hk => hd S k (by omega)⟩
theorem Dat.ne {n : Nat} {v : PV} (h : Dat n v) (hn : n ≤ 64) (S : Store) : neP v v S = some (.bl false, S) := by
  obtain ⟨d, hd⟩ := h
  exact neSame (hd S 64 hn) (hd S 64 hn)
theorem toD_list {S : Store} {m l : Nat} {xs : List PV} {ds : List PyData} (h : Ev.listAt S l = some xs) (e : mapD (toD S m) xs = some ds) : toD S (m + 1) (.loc l) = some (.list ds) := by
  unfold toD
  unfold Ev.listAt at h
  split at h
  · rename_i xs' e1
    cases h
    simp only [e1, e]
    rfl
  · rename_i xs' e1
    cases h
    simp only [e1, e]
    rfl
  · cases h
theorem listAt_lst {S : Store} {l : Nat} {xs : List PV} (h : S[l]? = some (.lst xs)) : Ev.listAt S l = some xs := by
  unfold Ev.listAt
  simp only [h]
theorem neLists {n : Nat} {S : Store} {l k : Nat} {xs : List PV} (h : DatL n xs) (hn : n ≤ 63) (h1 : S[l]? = some (.lst xs)) (h2 : S[k]? = some (.lst xs)) : neP (.loc l) (.loc k) S = some (.bl false, S) := by
  obtain ⟨ds, hds⟩ := h
  exact neSame (toD_list (m := 63) (listAt_lst h1) (hds S 63 hn)) (toD_list (m := 63) (listAt_lst h2) (hds S 63 hn))
theorem mapD_len {f : PV → Option PyData} : ∀ (xs : List PV) (ds : List PyData), mapD f xs = some ds → ds.length = xs.length
  | [], ds, e => by cases e; rfl
  | x :: xs, ds, e => by
    unfold mapD at e
    split at e
    · rename_i d ds e1 e2
      cases e
      rw [List.length_cons, List.length_cons, mapD_len xs ds e2]
    · cases e
theorem eqvNil (ds : List PyData) : PyData.eqvAll ds [] = ds.isEmpty := by cases ds <;> rfl
theorem isE {α β : Type} {xs : List α} {ys : List β} (h : xs.length = ys.length) : xs.isEmpty = ys.isEmpty := by
  cases xs <;> cases ys <;> first | rfl | cases h
theorem eqTupNil {n : Nat} {xs : List PV} (h : DatL n xs) (hn : n ≤ 63) (S : Store) : eqP (.tup xs) (.tup []) S = some (.bl xs.isEmpty, S) := by
  obtain ⟨ds, hds⟩ := h
  have e1 : toD S 64 (.tup xs) = some (.tuple ds) := by
    unfold toD
    rw [hds S 63 hn]
    rfl
  have e2 : toD S 64 (.tup []) = some (.tuple []) := rfl
  unfold eqP
  simp only [e1, e2]
  rw [PyData.eqv, eqvNil, isE (mapD_len _ _ (hds S 63 hn))]
theorem eqLstNil {n : Nat} {S : Store} {l k : Nat} {xs : List PV} (h : DatL n xs) (hn : n ≤ 63) (h1 : S[l]? = some (.lst xs)) (h2 : S[k]? = some (.lst [])) : eqP (.loc l) (.loc k) S = some (.bl xs.isEmpty, S) := by
  obtain ⟨ds, hds⟩ := h
  have e1 : toD S 64 (.loc l) = some (.list ds) := toD_list (m := 63) (listAt_lst h1) (hds S 63 hn)
  have e2 : toD S 64 (.loc k) = some (.list []) := toD_list (m := 63) (listAt_lst h2) rfl
  unfold eqP
  simp only [e1, e2]
  rw [PyData.eqv, eqvNil, isE (mapD_len _ _ (hds S 63 hn))]
theorem strEqv {a b : List Nat} : PyData.eqv (.str ⟨a.toArray⟩) (.str ⟨b.toArray⟩) = decide (a = b) := by
  simp only [PyData.eqv]
  by_cases e : a = b
  · subst e
    rw [decide_eq_true rfl]
    exact beq_self_eq_true _
  · rw [decide_eq_false e]
    apply Bool.eq_false_iff.mpr
    intro h
    apply e
    have h := eq_of_beq h
    simpa using h
theorem eqStr {a b : List Nat} (ha : okS a = true) (hb : okS b = true) (S : Store) : eqP (.str a) (.str b) S = some (.bl (decide (a = b)), S) := by
  unfold eqP toD
  simp only [ha, hb, if_true, strEqv]
theorem neStr {a b : List Nat} (ha : okS a = true) (hb : okS b = true) (S : Store) : neP (.str a) (.str b) S = some (.bl (!decide (a = b)), S) := by
  unfold neP toD
  simp only [ha, hb, if_true, strEqv]
theorem okS_of {s : List Nat} (h : ∀ c ∈ s, c < 128) : okS s = true := by
  unfold okS
  rw [List.all_eq_true]
  intro c hc
  exact decide_eq_true (Nat.lt_trans (h c hc) (by decide))
theorem Nm.ok (n : Nm) : okS n.s = true := by cases n <;> rfl
theorem Tm.dat : ∀ t : Tm, Dat t.dep t.pv
  | .nm n => .str _ n.ok
  | .num k => .int _ _
  | .fn m b => .tup (.of fun x hx => by
    simp only [List.mem_cons, List.not_mem_nil, or_false] at hx
    rcases hx with rfl | rfl | rfl
    · exact .str _ (by rfl)
    · exact .str _ m.ok
    · exact b.dat)
  | .ap a b => .tup (.of fun x hx => by
    simp only [List.mem_cons, List.not_mem_nil, or_false] at hx
    rcases hx with rfl | rfl | rfl
    · exact .str _ (by rfl)
    · exact a.dat.le (Nat.le_max_left _ _)
    · exact b.dat.le (Nat.le_max_right _ _))
/-! the store only grown -/
def Ext (S S' : Store) : Prop := ∃ J, S' = S ++ J
theorem Ext.refl {S : Store} : Ext S S := ⟨[], (List.append_nil _).symm⟩
theorem Ext.push {S S' : Store} (h : Ext S S') (o : SO) : Ext S (S' ++ [o]) := by
  obtain ⟨J, rfl⟩ := h; exact ⟨J ++ [o], List.append_assoc ..⟩
theorem Ext.more {S S' : Store} (h : Ext S S') (K : Store) : Ext S (S' ++ K) := by
  obtain ⟨J, rfl⟩ := h; exact ⟨J ++ K, List.append_assoc ..⟩
theorem Ext.trans {S S1 S2 : Store} (h : Ext S S1) (k : Ext S1 S2) : Ext S S2 := by
  obtain ⟨J, rfl⟩ := h; obtain ⟨K, rfl⟩ := k; exact ⟨J ++ K, List.append_assoc ..⟩
theorem Ext.set {S S' : Store} (h : Ext S S') {l : Nat} (hl : S.length ≤ l) (o : SO) : Ext S (S'.set l o) := by
  obtain ⟨J, rfl⟩ := h
  exact ⟨J.set (l - S.length) o, by rw [List.set_append_right _ _ hl]⟩
theorem Ext.get {S S' : Store} (h : Ext S S') {l : Nat} {o : SO} (e : S[l]? = some o) : S'[l]? = some o := by
  obtain ⟨J, rfl⟩ := h; exact grown e
theorem Ext.len {S S' : Store} (h : Ext S S') : S.length ≤ S'.length := by
  obtain ⟨J, rfl⟩ := h; rw [List.length_append]; omega

abbrev Wd := List Nat
def sgs : List Nat := [97, 98, 99, 100, 101, 102, 103, 104, 105, 106, 107, 108, 109, 110, 111, 112, 113, 114, 115, 116, 117, 118, 119, 120, 121, 122, 65, 66, 67, 68, 69, 70, 71, 72, 73, 74, 75, 76, 77, 78, 79, 80, 81, 82, 83, 84, 85, 86, 87, 88, 89, 90, 48, 49, 50, 51, 52, 53, 54, 55, 56, 57, 95]
def pcs : List Nat := [40, 41, 33, 46]
def okC (c : Nat) : Prop := c ∈ sgs ∨ c ∈ pcs ∨ c ∈ [32, 10]
def flush (w : Wd) : List Wd := if w = [] then [] else [w]
def punc (c : Nat) : List Wd := if c ∈ pcs then [[c]] else []
/-- the words of a text -/
def lexS : List Nat → Wd → List Wd
  | [], _ => []
  | c :: r, w => if c ∈ sgs then lexS r (w ++ [c]) else flush w ++ punc c ++ lexS r []
theorem sgs_lt : ∀ c ∈ sgs, c < 128 := by decide +kernel
theorem flush_len (w : Wd) : (flush w).length ≤ 1 := by unfold flush; split <;> simp
theorem punc_len (c : Nat) : (punc c).length ≤ 1 := by unfold punc; split <;> simp
def lexB : SF := (sSeq (sIf (bCmp (inP false) (eVar 1) (eC (.str sgs))) (sSeq (sAug 3 iaddP (eVar 1)) sNil) (sSeq (sAug 2 iaddP (eIf (bCmp neP (eVar 3) (eC (.str []))) (eLst (eCons (eVar 3) eNil)) (eLst eNil))) (sSeq (sAsg (eC (.str [])) (tgN 3)) (sSeq (sIf (bCmp (inP false) (eVar 1) (eC (.str pcs))) (sSeq (sExpr (eAppd (eVar 2) (eCons (eVar 1) eNil))) sNil) (sSeq (sIf (bCmp (inP true) (eVar 1) (eC (.str [32, 10]))) (sSeq (sRaise 1) sNil) sNil) sNil)) sNil)))) sNil)
theorem inS (b : Bool) (c : Nat) (t : List Nat) (S : Store) : inP b (.str [c]) (.str t) S = some (.bl (if b then !decide (c ∈ t) else decide (c ∈ t)), S) := rfl
theorem iaddL {S : Store} {l k : Nat} {xs ys : List PV} (h1 : S[l]? = some (.lst xs)) (h2 : S[k]? = some (.lst ys)) (hl : xs.length + ys.length ≤ LINE) : iaddP (.loc l) (.loc k) S = some (.loc l, S.set l (.lst (xs ++ ys))) := by
  unfold iaddP
  simp only [h1, h2, if_pos hl]
theorem iaddS {xs ys : List Nat} {S : Store} (h : xs.length + ys.length ≤ 100000) : iaddP (.str xs) (.str ys) S = some (.str (xs ++ ys), S) := if_pos (small h)
abbrev sv (ws : List Wd) : List PV := ws.map PV.str
theorem lexB_s {S0 S : Store} {l c : Nat} {t : Option PV} {acc : List Wd} {w : Wd} {Q : Fl → Store → Prop} (hc : okC c) (hS : Ext S0 S) (hl0 : S0.length ≤ l) (h : S[l]? = some (.lst (sv acc))) (hw : okS w = true) (h1 : acc.length ≤ 80000) (h2 : w.length ≤ 40000)
    (q1 : c ∈ sgs → Q (.nx [t, some (.str [c]), some (.loc l), some (.str (w ++ [c]))]) S)
    (q2 : c ∉ sgs → ∀ S', Ext S0 S' → S'[l]? = some (.lst (sv (acc ++ flush w ++ punc c))) → Q (.nx [t, some (.str [c]), some (.loc l), some (.str [])]) S') :
    WS (lexB [t, some (.str [c]), some (.loc l), some (.str w)] S) Q := by
  unfold lexB
  walk_at "ev"
  refine ⟨_, _, inS .., ?_⟩
  by_cases hs : c ∈ sgs
  · refine itT (decide_eq_true hs) ?_
    walk_at "ev"
    refine .mk (iaddS (by show w.length + 1 ≤ 100000; omega)) ?_
    walk_at "ev"
    exact q1 hs
  · refine itF (decide_eq_false hs) ?_
    have G : ∀ S2, Ext S0 S2 → S2[l]? = some (.lst (sv (acc ++ flush w))) → WS ((sSeq (sAsg (eC (.str [])) (tgN 3)) (sSeq (sIf (bCmp (inP false) (eVar 1) (eC (.str pcs))) (sSeq (sExpr (eAppd (eVar 2) (eCons (eVar 1) eNil))) sNil) (sSeq (sIf (bCmp (inP true) (eVar 1) (eC (.str [32, 10]))) (sSeq (sRaise 1) sNil) sNil) sNil)) sNil)) [t, some (.str [c]), some (.loc l), some (.str w)] S2) (nxt sNil Q) := by
      intro S2 e2 g2
      have f1 := flush_len w
      walk_at "ev"
      refine ⟨_, _, inS .., ?_⟩
      by_cases hp : c ∈ pcs
      · refine itT (decide_eq_true hp) ?_
        walk_at "ev"
        refine ⟨by unfold tyP; simp only [g2], ?_⟩
        walk_at "ev"
        refine ⟨l, .str [c], _, rfl, rfl, g2, small (by show (sv (acc ++ flush w)).length + 1 ≤ 100000; rw [List.length_map, List.length_append]; omega), ?_⟩
        walk_at "ev"
        refine q2 hs _ (e2.set hl0 _) ?_
        rw [get_set g2]
        unfold punc
        rw [if_pos hp]
        simp [sv]
      · refine itF (decide_eq_false hp) ?_
        have h3 : c ∈ [32, 10] := (hc.resolve_left hs).resolve_left hp
        walk_at "ev"
        refine ⟨_, _, inS .., ?_⟩
        refine itF (by show (!decide (c ∈ [32, 10])) = false; rw [decide_eq_true h3]; rfl) ?_
        walk_at "ev"
        refine q2 hs _ e2 ?_
        rw [g2]
        unfold punc
        rw [if_neg hp, List.append_nil]
    walk_at "ev"
    refine ⟨_, _, neStr hw rfl S, ?_⟩
    by_cases hn : w = []
    · refine itF (by rw [decide_eq_true hn]; rfl) ?_
      walk_at "ev"
      refine ⟨by show 0 ≤ LINE; decide, ?_⟩
      refine .mk (iaddL (grown h) lastS (by rw [List.length_map]; exact small (by show acc.length + 0 ≤ 100000; omega))) ?_
      refine G _ ((hS.push _).set hl0 _) ?_
      rw [get_set (grown h)]
      unfold flush
      rw [if_pos hn, List.append_nil, List.append_nil]
    · refine itT (by rw [decide_eq_false hn]; rfl) ?_
      walk_at "ev"
      refine ⟨by show 1 ≤ LINE; decide, ?_⟩
      refine .mk (iaddL (grown h) lastS (by rw [List.length_map]; exact small (by show acc.length + 1 ≤ 100000; omega))) ?_
      refine G _ ((hS.push _).set hl0 _) ?_
      rw [get_set (grown h)]
      unfold flush
      rw [if_neg hn]
      simp [sv]
theorem okS_app {a b : List Nat} (h1 : okS a = true) (h2 : okS b = true) : okS (a ++ b) = true := by
  unfold okS at *
  rw [List.all_append, h1, h2]
  rfl
abbrev chs (xs : List Nat) : List PV := xs.map fun c => PV.str [c]
theorem lex_loop {S0 : Store} {l : Nat} {t : Option PV} {xs : List Nat} (hl0 : S0.length ≤ l) (hx : xs.length ≤ 40000) {Q : Fl → Store → Prop} :
    ∀ (r pre : List Nat) (w : Wd) (acc : List Wd) (S : Store) (n : Nat) (sg : Option PV), (∀ c ∈ r, okC c) → xs = pre ++ r → r.length < n → okS w = true → w.length ≤ pre.length → acc.length ≤ 2 * pre.length → Ext S0 S → S[l]? = some (.lst (sv acc)) →
    (∀ S' w' sg, Ext S0 S' → S'[l]? = some (.lst (sv (acc ++ lexS r w))) → Q (.nx [t, sg, some (.loc l), w']) S') →
    WS (forL (.seq (chs xs)) (tgN 1) lexB n pre.length [t, sg, some (.loc l), some (.str w)] S) Q
  | r, pre, w, acc, S, 0, sg, _, _, hn, _, _, _, _, _, _ => absurd hn (Nat.not_lt_zero _)
  | [], pre, w, acc, S, n + 1, sg, hc, e, hn, hw, h1, h2, hS, h, q => by
    refine wforEnd ?_ (q S _ _ hS (by rw [h]; simp [lexS]))
    show some ((chs xs)[pre.length]?) = some none
    rw [e, List.append_nil, List.getElem?_eq_none (by simp)]
  | c :: r, pre, w, acc, S, n + 1, sg, hc, e, hn, hw, h1, h2, hS, h, q => by
    have hp : pre.length + (r.length + 1) ≤ 40000 := by rw [e] at hx; simpa using hx
    have hn : r.length + 1 < n + 1 := hn
    refine wforGo (v := .str [c]) ?_ rfl ?_
    · show some ((chs xs)[pre.length]?) = _
      rw [e]
      simp
    refine lexB_s (hc c (by simp)) hS hl0 h hw (by omega) (by omega) (fun hs => ?_) fun hs S' e' g' => ?_
    · have := lex_loop hl0 hx r (pre ++ [c]) (w ++ [c]) acc S n (some (.str [c])) (Q := Q) (fun d hd => hc d (by simp [hd])) (by rw [e]; simp) (by omega) (okS_app hw (okS_of fun d hd => by rw [List.mem_singleton.mp hd]; exact sgs_lt c hs)) (by simp; omega) (by simp; omega) hS h (fun S' w' sg e' g' => q S' w' sg e' (by rw [g', lexS, if_pos hs]))
      rw [List.length_append] at this
      exact this
    · have f1 := flush_len w
      have f2 := punc_len c
      have := lex_loop hl0 hx r (pre ++ [c]) [] (acc ++ flush w ++ punc c) S' n (some (.str [c])) (Q := Q) (fun d hd => hc d (by simp [hd])) (by rw [e]; simp) (by omega) rfl (by simp) (by simp only [List.length_append, List.length_cons, List.length_nil]; omega) e' g' (fun S' w' sg e' g' => q S' w' sg e' (by rw [g', lexS, if_neg hs]; simp only [List.append_assoc]))
      rw [List.length_append] at this
      exact this
def wds (xs : List Nat) : List Wd := lexS (xs ++ [32]) []
theorem words_s (e : Nat) {xs : List Nat} (h : ∀ c ∈ xs, okC c) (hl : xs.length ≤ 30000) : PureJ (callF (e + 1)) 0 [.str xs] (.tup (sv (wds xs))) := .of (cf0 e _) fun S => by
  refine wRun ?_
  show WS ((sSeq (sPar 2 3 (eCons (eLst eNil) (eCons (eC (.str [])) eNil))) (sSeq (sFor (iOf (eBin addP (eVar 0) (eC (.str [32])))) (tgN 1) lexB) (sSeq (sRet (eCl tupP2 (eCons (eVar 2) eNil))) sNil))) [some (.str xs), none, none, none] S) _
  walk_at "evr"
  refine wsFor ?_
  refine .mk (a := .seq (chs (xs ++ [32]))) (S' := S ++ [.lst []]) ?_ ?_
  · unfold iOf eBin eVar eC
    show R.bind (R.bind (.ok (PV.str xs) _) _) _ = _
    show R.bind (R.ofO (addP (.str xs) (.str [32]) _)) _ = _
    rw [addS (by simp; omega)]
    rfl
  · refine lex_loop (S0 := S) (l := S.length) (Nat.le_refl _) (by simp; omega) (xs ++ [32]) [] [] [] _ _ none ?_ rfl (by simp [fuelOf]) rfl (Nat.le_refl _) (Nat.zero_le _) (Ext.refl.push _) lastS fun S' w' sg e' g' => ?_
    · intro c hc
      rcases List.mem_append.mp hc with hc | hc
      · exact h c hc
      · rw [List.mem_singleton.mp hc]; exact .inr (.inr (by simp))
    · walk_at "ev"
      refine .mk (z := .tup (sv (wds xs))) (S' := S') ?_ ⟨rfl, e'⟩
      unfold tupP2
      simp only [g']
      rfl

/-! the grammar of rows of words -/
def fnsR : List Nm → Tm → Tm
  | [], t => t
  | n :: r, t => fnsR r (.fn n t)
def fns (ns : List Nm) (t : Tm) : Tm := fnsR ns.reverse t
theorem fnsR_app : ∀ (xs ys : List Nm) (t : Tm), fnsR (xs ++ ys) t = fnsR ys (fnsR xs t)
  | [], ys, t => rfl
  | x :: xs, ys, t => fnsR_app xs ys _
theorem fns_cons (n : Nm) (ns : List Nm) (t : Tm) : fns (n :: ns) t = .fn n (fns ns t) := by
  unfold fns
  rw [List.reverse_cons, fnsR_app]
  rfl
inductive So where
  | part | row | opn
inductive Gr : So → List Wd → Tm → Nat → Prop
  | nm (n : Nm) (h : Nat) : Gr .part [n.s] (.nm n) h
  | num (k : _root_.Fin 9) (h : Nat) : Gr .part [numS k] (.num k) h
  | par {ws : List Wd} {t : Tm} {h : Nat} {k : So} (hk : k ≠ .part) (g : Gr k ws t h) : Gr .part ([40] :: (ws ++ [[41]])) t (h + 1)
  | fn {ws : List Wd} {t : Tm} {h : Nat} {k : So} {ns : List Nm} (hk : k ≠ .part) (g : Gr k ws t h) (hn : ns ≠ []) (hl : ns.length ≤ 100) : Gr .opn ([33] :: (ns.map Nm.s ++ [46] :: ws)) (fns ns t) (h + 1)
  | one {ws : List Wd} {t : Tm} {h : Nat} (g : Gr .part ws t h) : Gr .row ws t h
  | app {ws vs : List Wd} {a b : Tm} {h : Nat} (g : Gr .row ws a h) (k : Gr .part vs b h) : Gr .row (ws ++ vs) (.ap a b) h
theorem numS_ne (k : _root_.Fin 9) : numS k ≠ [41] ∧ numS k ≠ [46] := by
  constructor <;> (intro h; unfold numS at h; injection h with h; omega)
theorem Gr.head {k : So} {ws : List Wd} {t : Tm} {h : Nat} (g : Gr k ws t h) : ∃ w r, ws = w :: r ∧ w ≠ [41] ∧ w ≠ [46] := by
  induction g with
  | nm n h => exact ⟨_, _, rfl, by cases n <;> decide, by cases n <;> decide⟩
  | num k h => exact ⟨_, _, rfl, (numS_ne k).1, (numS_ne k).2⟩
  | par hk g ih => exact ⟨_, _, rfl, by decide, by decide⟩
  | fn hk g hn hl ih => exact ⟨_, _, rfl, by decide, by decide⟩
  | one g ih => exact ih
  | app g k ih ih2 => obtain ⟨w, r, rfl, h1, h2⟩ := ih; exact ⟨w, _, rfl, h1, h2⟩
/-! steps -/
theorem atI_at {α : Type} {xs pre rest : List α} {w : α} (e : xs = pre ++ w :: rest) : atI xs (pre.length : Int) = some w := by
  subst e
  unfold atI ixN
  rw [if_pos (by omega), if_pos (by rw [List.length_append, List.length_cons]; omega)]
  simp
theorem ixT {W pre rest : List Wd} {w : Wd} (e : W = pre ++ w :: rest) (S : Store) : ixP (.tup (sv W)) (.int (pre.length : Int)) S = some (.str w, S) := by
  have : atI (sv W) (pre.length : Int) = some (PV.str w) := by
    have := atI_at (xs := sv W) (pre := sv pre) (rest := sv rest) (w := PV.str w) (by rw [e]; simp [sv])
    rw [List.length_map] at this
    exact this
  show (match atI (sv W) (pre.length : Int) with
    | some v => some (v, S)
    | none => none) = _
  rw [this]
theorem lenT (W : List Wd) (S : Store) : lenP [.tup (sv W)] S = some (.int W.length, S) := by
  show some (PV.int (sv W).length, S) = _
  rw [List.length_map]
theorem notIn {w : Wd} (h1 : w ≠ [41]) (h2 : w ≠ [46]) (S : Store) : inP true (.str w) (.tup [.str [41], .str [46]]) S = some (.bl true, S) := by
  show some (PV.bl (!(([41] == w) || (([46] == w) || false))), S) = _
  have e1 : ([41] == w) = false := by apply Bool.eq_false_iff.mpr; intro h; exact h1 (eq_of_beq h).symm
  have e2 : ([46] == w) = false := by apply Bool.eq_false_iff.mpr; intro h; exact h2 (eq_of_beq h).symm
  rw [e1, e2]
  rfl
theorem num_no (n : Nm) (e : Nat) : Pure (callF (e + 1)) 2 [.str n.s] (.bl false) := .of (cf2 e _) fun S => by
  cases n <;> exact ⟨_, _, rfl, rfl, rfl⟩
theorem fin9 {P : _root_.Fin 9 → Prop} (h0 : P 0) (h1 : P 1) (h2 : P 2) (h3 : P 3) (h4 : P 4) (h5 : P 5) (h6 : P 6) (h7 : P 7) (h8 : P 8) (k : _root_.Fin 9) : P k := by
  obtain ⟨k, hk⟩ := k
  have : k = 0 ∨ k = 1 ∨ k = 2 ∨ k = 3 ∨ k = 4 ∨ k = 5 ∨ k = 6 ∨ k = 7 ∨ k = 8 := by omega
  rcases this with rfl | rfl | rfl | rfl | rfl | rfl | rfl | rfl | rfl <;> assumption
theorem num_yes (k : _root_.Fin 9) (e : Nat) : Pure (callF (e + 1)) 2 [.str (numS k)] (.bl true) := .of (cf2 e _) fun S => by
  revert k
  apply fin9 <;> exact ⟨_, _, rfl, rfl, rfl⟩
theorem int_num0 : ∀ k : _root_.Fin 9, PySem.intText? ⟨(numS k).toArray⟩ = some (k.val : Int) := by decide +kernel
theorem int_num (k : _root_.Fin 9) (S : Store) : intP [.str (numS k)] S = some (.int k.val, S) := by
  show (if (numS k).length ≤ 640 then match PySem.intText? ⟨(numS k).toArray⟩ with
      | some n => some (PV.int n, S)
      | none => none
    else none) = _
  rw [int_num0 k, if_pos (by show 1 ≤ 640; decide)]
theorem numS_ok (k : _root_.Fin 9) : okS (numS k) = true := okS_of fun c hc => by
  unfold numS at hc
  rw [List.mem_singleton.mp hc]; omega
theorem dot_no (e : Nat) : Pure (callF (e + 1)) 1 [.str [46]] (.bl false) := .of (cf1 e _) fun S => ⟨_, _, rfl, rfl, rfl⟩
theorem len_lt {W pre rest : List Wd} {w : Wd} (e : W = pre ++ w :: rest) : pre.length < W.length := by
  rw [e, List.length_append, List.length_cons]; omega
theorem tgT2 {i j : Nat} {a b : PV} {ρ : Env'} {S : Store} : tgT 2 (tgCons (tgN i) (tgCons (tgN j) tgNil)) (.tup [a, b]) ρ S = some ((ρ.set i (some a)).set j (some b), S) := rfl
theorem nth_ref {S : Store} {l i : Nat} {xs : List PV} (h : S[l]? = some (.lst xs)) : nth (.ref l) i S = some xs[i]? := by
  unfold nth
  simp only [listAt_lst h]
theorem wOf {a : EF} {ρ : Env'} {S : Store} {Q : Src → Store → Prop} (h : WE (a ρ S) fun v S1 => ∃ s, srcP v S1 = some s ∧ Q s S1) : WE (iOf a ρ S) Q := wBind (h.imp fun v S1 ⟨s, e, q⟩ => by rw [e]; exact ⟨_, _, rfl, q⟩)
theorem srcL {S : Store} {l : Nat} {xs : List PV} (h : S[l]? = some (.lst xs)) : srcP (.loc l) S = some (.ref l) := by
  unfold srcP
  simp only [listAt_lst h]
theorem revL {S : Store} {l : Nat} {xs : List PV} (h : S[l]? = some (.lst xs)) : revP (.loc l) S = some (.loc S.length, S ++ [.lst xs.reverse]) := by
  unfold revP
  simp only [h]
def Ends (rest : List Wd) : Prop := rest = [] ∨ ∃ r, rest = [41] :: r
/-- the whole loop of read_row -/
def rowB (c : Oracle) (n : Nat) : SF := whL (bAnd (bCmp ltP (eVar 1) (eCl lenP (eCons (eVar 0) eNil))) (bCmp (inP true) (eBin ixP (eVar 0) (eVar 1)) (eTup (eCons (eC (.str [41])) (eCons (eC (.str [46])) eNil))))) (sSeq (sAsg (eCall c 5 3 [] (eCons (eVar 0) (eCons (eVar 1) (eCons (eVar 2) eNil)))) (tgT 2 (tgCons (tgN 4) (tgCons (tgN 1) tgNil)))) (sSeq (sAsg (eTup (eCons (eC (.str [97, 116])) (eCons (eVar 3) (eCons (eVar 4) eNil)))) (tgN 3)) sNil)) n
def rowA (c : Oracle) : SF := sAsg (eCall c 5 3 [] (eCons (eVar 0) (eCons (eVar 1) (eCons (eVar 2) eNil)))) (tgT 2 (tgCons (tgN 3) (tgCons (tgN 1) tgNil)))
theorem row_end {c : Oracle} {n : Nat} {W pre rest : List Wd} {S : Store} {k t y : Option PV} {Q : Fl → Store → Prop} (e : W = pre ++ rest) (he : Ends rest) (q : Q (.nx [some (.tup (sv W)), some (.int (pre.length : Int)), k, t, y]) S) :
    WS (rowB c (n + 1) [some (.tup (sv W)), some (.int (pre.length : Int)), k, t, y] S) Q := by
  unfold rowB
  refine wwhile ?_
  walk_at "ev"
  refine .mk (lenT W S) ?_
  refine ⟨_, _, ltI .., ?_⟩
  rcases he with rfl | ⟨r, rfl⟩
  · refine itF (decide_eq_false (by rw [e, List.append_nil]; omega)) ?_
    exact itF rfl q
  · have := len_lt e
    refine itT (decide_eq_true (by omega)) ?_
    walk_at "ev"
    refine .mk (ixT e S) ?_
    walk_at "ev"
    refine ⟨by show 2 ≤ LINE; decide, ?_⟩
    refine ⟨_, _, rfl, ?_⟩
    exact itF rfl q
/-- what read_part and read_row come to -/
abbrev rd (t : Tm) (n : Nat) : PV := .tup [t.pv, .int (n : Int)]
theorem row_one {c : Oracle} {W : List Wd} {p n : Nat} {k : Int} {S : Store} {x y : Option PV} {t : Tm} {Q : Fl → Store → Prop} (h : PureJ c 5 [.tup (sv W), .int (p : Int), .int k] (rd t n))
    (q : ∀ J, Q (.nx [some (.tup (sv W)), some (.int (n : Int)), some (.int k), some t.pv, y]) (S ++ J)) : WS (rowA c [some (.tup (sv W)), some (.int (p : Int)), some (.int k), x, y] S) Q := by
  unfold rowA
  walk_at "ev"
  refine ⟨rfl, ?_⟩
  refine h.use fun J => ?_
  exact ⟨_, _, tgT2, q J⟩
theorem row_more {c : Oracle} {W pre rest : List Wd} {w : Wd} {m n : Nat} {k : Int} {S : Store} {y : Option PV} {a b : Tm} {Q : Fl → Store → Prop} (e : W = pre ++ w :: rest) (h1 : w ≠ [41]) (h2 : w ≠ [46]) (h : PureJ c 5 [.tup (sv W), .int (pre.length : Int), .int k] (rd b n))
    (q : ∀ J y, WS (rowB c m [some (.tup (sv W)), some (.int (n : Int)), some (.int k), some (Tm.ap a b).pv, y] (S ++ J)) Q) : WS (rowB c (m + 1) [some (.tup (sv W)), some (.int (pre.length : Int)), some (.int k), some a.pv, y] S) Q := by
  have hl := len_lt e
  unfold rowB
  refine wwhile ?_
  walk_at "ev"
  refine .mk (lenT W S) ?_
  refine ⟨_, _, ltI .., itT (decide_eq_true (by omega)) ?_⟩
  walk_at "ev"
  refine .mk (ixT e S) ?_
  walk_at "ev"
  refine ⟨by show 2 ≤ LINE; decide, ?_⟩
  refine ⟨_, _, notIn h1 h2 S, itT rfl ?_⟩
  walk_at "ev"
  refine ⟨rfl, ?_⟩
  refine h.use fun J => ?_
  refine ⟨_, _, tgT2, ?_⟩
  walk_at "ev"
  walk_at "ev"
  exact q J _
/-! the names of a function -/
def nmL (c : Oracle) (n : Nat) : SF := whL (bAnd (bCmp ltP (eVar 8) (eCl lenP (eCons (eVar 0) eNil))) (bTru (eCall c 1 1 [] (eCons (eBin ixP (eVar 0) (eVar 8)) eNil)))) (sSeq (sExpr (eAppd (eVar 7) (eCons (eBin ixP (eVar 0) (eVar 8)) eNil))) (sSeq (sAug 8 iaddP (eC (.int 1))) sNil)) n
theorem nm_loop {S0 : Store} {l : Nat} {W rest : List Wd} {e : Nat} {x1 x2 x3 x4 x5 x6 : Option PV} {Q : Fl → Store → Prop} (hl0 : S0.length ≤ l) :
    ∀ (ns : List Nm) (pre : List Wd) (acc : List Nm) (S : Store) (n : Nat), W = pre ++ (ns.map Nm.s ++ [46] :: rest) → ns.length < n → Ext S0 S → S[l]? = some (.lst (acc.map fun m => PV.str m.s)) → acc.length + ns.length ≤ 1000 →
    (∀ S', Ext S0 S' → S'[l]? = some (.lst ((acc ++ ns).map fun m => PV.str m.s)) → Q (.nx [some (.tup (sv W)), x1, x2, x3, x4, x5, x6, some (.loc l), some (.int ((pre.length + ns.length : Nat) : Int))]) S') →
    WS (nmL (callF (e + 1)) n [some (.tup (sv W)), x1, x2, x3, x4, x5, x6, some (.loc l), some (.int (pre.length : Int))] S) Q
  | ns, pre, acc, S, 0, _, h, _, _, _, _ => absurd h (Nat.not_lt_zero _)
  | [], pre, acc, S, n + 1, eW, hn, hS, h, hl, q => by
    have eW : W = pre ++ [46] :: rest := eW
    have hp := len_lt eW
    unfold nmL
    refine wwhile ?_
    walk_at "ev"
    refine .mk (lenT W S) ?_
    refine ⟨_, _, ltI .., itT (decide_eq_true (by omega)) ?_⟩
    walk_at "ev"
    refine .mk (ixT eW S) ?_
    walk_at "ev"
    refine ⟨rfl, ?_⟩
    refine (dot_no e).use ?_
    refine ⟨_, rfl, itF rfl ?_⟩
    exact q S hS (by rw [h, List.append_nil])
  | m :: ns, pre, acc, S, n + 1, eW, hn, hS, h, hl, q => by
    have eW : W = pre ++ m.s :: (ns.map Nm.s ++ [46] :: rest) := eW
    have hp := len_lt eW
    have hn : ns.length + 1 < n + 1 := hn
    have hl : acc.length + (ns.length + 1) ≤ 1000 := hl
    unfold nmL
    refine wwhile ?_
    walk_at "ev"
    refine .mk (lenT W S) ?_
    refine ⟨_, _, ltI .., itT (decide_eq_true (by omega)) ?_⟩
    walk_at "ev"
    refine .mk (ixT eW S) ?_
    walk_at "ev"
    refine ⟨rfl, ?_⟩
    refine (name_s m e).use ?_
    refine ⟨_, rfl, itT rfl ?_⟩
    walk_at "ev"
    refine ⟨by unfold tyP; simp only [h], ?_⟩
    walk_at "ev"
    refine .mk (ixT eW S) ?_
    walk_at "ev"
    refine ⟨l, .str m.s, _, rfl, rfl, h, small (by rw [List.length_map]; omega), ?_⟩
    walk_at "ev"
    have := nm_loop hl0 ns (pre ++ [m.s]) (acc ++ [m]) (S.set l (.lst (acc.map (fun m => PV.str m.s) ++ [.str m.s]))) n (W := W) (rest := rest) (e := e) (x1 := x1) (x2 := x2) (x3 := x3) (x4 := x4) (x5 := x5) (x6 := x6) (Q := Q) (by rw [eW]; simp) (by omega) (hS.set hl0 _) (by rw [get_set h]; simp) (by simp; omega)
      (fun S' e' g' => by
        have := q S' e' (by rw [g']; simp)
        have e9 : (pre ++ [m.s]).length + ns.length = pre.length + (m :: ns).length := by simp; omega
        rw [e9]
        exact this)
    have e8 : (((pre ++ [m.s]).length : Nat) : Int) = (pre.length : Int) + 1 := by simp
    rw [e8] at this
    exact this
/-! the functions around -/
def fnB : SF := (sSeq (sAsg (eTup (eCons (eC (.str [102, 117, 110])) (eCons (eVar 4) (eCons (eVar 5) eNil)))) (tgN 5)) sNil)
theorem fn_loop {S : Store} {l : Nat} {xs : List Nm} {x0 x1 x2 x3 x6 x7 x8 : Option PV} {Q : Fl → Store → Prop} (h : S[l]? = some (.lst (xs.map fun m => PV.str m.s))) :
    ∀ (r pre : List Nm) (t : Tm) (n : Nat) (y : Option PV), xs = pre ++ r → r.length < n → (∀ y, Q (.nx [x0, x1, x2, x3, y, some (fnsR r t).pv, x6, x7, x8]) S) → WS (forL (.ref l) (tgN 4) fnB n pre.length [x0, x1, x2, x3, y, some t.pv, x6, x7, x8] S) Q
  | r, pre, t, 0, y, _, h, _ => absurd h (Nat.not_lt_zero _)
  | [], pre, t, n + 1, y, e, hn, q => by
    refine wforEnd ?_ (q _)
    rw [nth_ref h]
    show some ((xs.map fun m => PV.str m.s)[pre.length]?) = some none
    rw [e, List.append_nil, List.getElem?_eq_none (by simp)]
  | m :: r, pre, t, n + 1, y, e, hn, q => by
    refine wforGo (v := .str m.s) ?_ rfl ?_
    · rw [nth_ref h]
      show some ((xs.map fun m => PV.str m.s)[pre.length]?) = _
      rw [e]
      simp
    · unfold fnB
      walk_at "ev"
      walk_at "ev"
      have := fn_loop (S := S) (l := l) (xs := xs) (x0 := x0) (x1 := x1) (x2 := x2) (x3 := x3) (x6 := x6) (x7 := x7) (x8 := x8) (Q := Q) h r (pre ++ [m]) (.fn m t) n (some (.str m.s)) (by rw [e]; simp) (by simpa using hn) q
      rw [List.length_append] at this
      exact this

theorem rdE {t : Tm} {a b : Int} (h : a = b) : PV.tup [t.pv, .int a] = PV.tup [t.pv, .int b] := by rw [h]
/-- what is read of a row of words -/
def PartOk (k : So) (ws : List Wd) (t : Tm) (h : Nat) : Prop := ∀ (W pre rest : List Wd) (d dp : Nat), W = pre ++ (ws ++ rest) → W.length ≤ 50000 → dp + h ≤ 60 → 2 * h + 3 ≤ d →
  match k with
  | .part => PureJ (callF d) 5 [.tup (sv W), .int (pre.length : Int), .int (dp : Int)] (rd t (pre.length + ws.length))
  | .opn => Ends rest → PureJ (callF d) 5 [.tup (sv W), .int (pre.length : Int), .int (dp : Int)] (rd t (pre.length + ws.length))
  | .row => ∀ (S : Store) (N : Nat) (x y : Option PV) (Q : Fl → Store → Prop), ws.length ≤ N →
      (∀ J n y, N - ws.length ≤ n → WS (rowB (callF d) n [some (.tup (sv W)), some (.int ((pre.length + ws.length : Nat) : Int)), some (.int (dp : Int)), some t.pv, y] (S ++ J)) Q) →
      WS (rowA (callF d) [some (.tup (sv W)), some (.int (pre.length : Int)), some (.int (dp : Int)), x, y] S) (nxt (rowB (callF d) N) Q)
/-- read_row over what is a row or an open function -/
theorem row_of_parts {k : So} {ws : List Wd} {t : Tm} {h : Nat} (hk : k ≠ .part) (g : PartOk k ws t h) {W pre rest : List Wd} {d dp : Nat} (e : W = pre ++ (ws ++ rest)) (hW : W.length ≤ 50000) (he : Ends rest) (hd : dp + h ≤ 60) (hr : 2 * h + 4 ≤ d) :
    PureJ (callF d) 4 [.tup (sv W), .int (pre.length : Int), .int (dp : Int)] (rd t (pre.length + ws.length)) := by
  obtain ⟨d, rfl⟩ : ∃ e, d = e + 1 := ⟨d - 1, by omega⟩
  have hl : ws.length ≤ 50000 := by
    rw [e, List.length_append, List.length_append] at hW; omega
  have e2 : W = (pre ++ ws) ++ rest := by rw [e, List.append_assoc]
  refine .of (cf4 d _) fun S => ?_
  refine wRun ?_
  show WS ((sSeq (sIf (bCmp gtP (eVar 2) (eC (.int 60))) (sSeq (sRaise 1) sNil) sNil) (sSeq (rowA (callF d)) (sSeq (rowB (callF d) 100000) (sSeq (sRet (eTup (eCons (eVar 3) (eCons (eVar 1) eNil)))) sNil)))) [some (.tup (sv W)), some (.int (pre.length : Int)), some (.int (dp : Int)), none, none] S) _
  walk_at "ev"
  refine ⟨_, _, gtI .., itF (decide_eq_false (by omega)) ?_⟩
  refine wsNil ?_
  have tail : ∀ J n y, 1 ≤ n → WS (rowB (callF d) n [some (.tup (sv W)), some (.int ((pre.length + ws.length : Nat) : Int)), some (.int (dp : Int)), some t.pv, y] (S ++ J)) (nxt (sSeq (sRet (eTup (eCons (eVar 3) (eCons (eVar 1) eNil)))) sNil) (fin fun w S' => w = rd t (pre.length + ws.length) ∧ ∃ J, S' = S ++ J)) := by
    intro J n y hn
    obtain ⟨n, rfl⟩ : ∃ m, n = m + 1 := ⟨n - 1, by omega⟩
    have := row_end (c := callF d) (n := n) (W := W) (pre := pre ++ ws) (rest := rest) (S := S ++ J) (k := some (.int (dp : Int))) (t := some t.pv) (y := y) (Q := (nxt (sSeq (sRet (eTup (eCons (eVar 3) (eCons (eVar 1) eNil)))) sNil) (fin fun w S' => w = rd t (pre.length + ws.length) ∧ ∃ J, S' = S ++ J))) e2 he (by
      rw [List.length_append]
      walk_at "ev"
      refine ⟨by show 2 ≤ LINE; decide, ?_⟩
      exact ⟨rfl, J, rfl⟩)
    rw [List.length_append] at this
    exact this
  cases k with
  | part => exact absurd rfl hk
  | opn =>
    refine wsSeq (row_one (g W pre rest d dp e hW hd (by omega) he) fun J => ?_)
    exact wsSeq (tail J 100000 _ (by omega))
  | row =>
    refine wsSeq ?_
    have := g W pre rest d dp e hW hd (by omega) S 100000 none none _ (by omega) (fun J n y hn => tail J n y (by omega))
    refine this.imp fun fl S1 h1 => ?_
    cases fl with
    | nx ρ => exact wsSeq h1
    | rt v => exact h1
    | bk ρ => exact h1
    | ct ρ => exact h1
theorem Gr.ok {k : So} {ws : List Wd} {t : Tm} {h : Nat} (g : Gr k ws t h) : PartOk k ws t h := by
  induction g with
  | nm n h =>
    intro W pre rest d dp e hW hd hr
    obtain ⟨d, rfl⟩ : ∃ e, d = e + 2 := ⟨d - 2, by omega⟩
    have e1 : W = pre ++ n.s :: rest := e
    have hl := len_lt e1
    refine .of (cf5 (d + 1) _) fun S => ?_
    refine wRun ?_
    unfold b5
    walk_at "ev"
    refine .mk (lenT W S) ?_
    refine ⟨_, _, rfl, itF (decide_eq_false (by omega)) ?_⟩
    walk_at "ev"
    refine .mk (ixT e1 S) ?_
    walk_at "ev"
    refine ⟨_, _, eqStr n.ok rfl S, itF (by cases n <;> rfl) ?_⟩
    walk_at "ev"
    refine ⟨_, _, eqStr n.ok rfl S, itF (by cases n <;> rfl) ?_⟩
    walk_at "ev"
    refine ⟨rfl, ?_⟩
    refine (num_no n d).use ?_
    refine ⟨_, rfl, itF rfl ?_⟩
    walk_at "ev"
    refine ⟨rfl, ?_⟩
    refine (name_s n d).use ?_
    refine ⟨_, rfl, itF rfl ?_⟩
    walk_at "ev"
    refine .mk rfl ?_
    walk_at "ev"
    refine ⟨by show 2 ≤ LINE; decide, ?_⟩
    exact ⟨rdE (t := .nm n) (by simp), [], by simp⟩
  | num k h =>
    intro W pre rest d dp e hW hd hr
    obtain ⟨d, rfl⟩ : ∃ e, d = e + 2 := ⟨d - 2, by omega⟩
    have e1 : W = pre ++ numS k :: rest := e
    have hl := len_lt e1
    have hk1 : numS k ≠ [40] := by intro h; unfold numS at h; injection h with h; omega
    have hk2 : numS k ≠ [33] := by intro h; unfold numS at h; injection h with h; omega
    refine .of (cf5 (d + 1) _) fun S => ?_
    refine wRun ?_
    unfold b5
    walk_at "ev"
    refine .mk (lenT W S) ?_
    refine ⟨_, _, rfl, itF (decide_eq_false (by omega)) ?_⟩
    walk_at "ev"
    refine .mk (ixT e1 S) ?_
    walk_at "ev"
    refine ⟨_, _, eqStr (numS_ok k) rfl S, itF (decide_eq_false hk1) ?_⟩
    walk_at "ev"
    refine ⟨_, _, eqStr (numS_ok k) rfl S, itF (decide_eq_false hk2) ?_⟩
    walk_at "ev"
    refine ⟨rfl, ?_⟩
    refine (num_yes k d).use ?_
    refine ⟨_, rfl, itT rfl ?_⟩
    walk_at "ev"
    refine .mk (int_num k S) ?_
    walk_at "ev"
    refine .mk rfl ?_
    walk_at "ev"
    refine ⟨by show 2 ≤ LINE; decide, ?_⟩
    exact ⟨rdE (t := .num k) (by simp), [], by simp⟩
  | @par ws t h k hk g ih =>
    intro W pre rest d dp e hW hd hr
    obtain ⟨d, rfl⟩ : ∃ e, d = e + 1 := ⟨d - 1, by omega⟩
    have e1 : W = pre ++ [40] :: (ws ++ ([41] :: rest)) := by rw [e]; simp
    have e2 : W = (pre ++ [[40]]) ++ (ws ++ ([41] :: rest)) := by rw [e1]; simp
    have e3 : W = (pre ++ [[40]] ++ ws) ++ [41] :: rest := by rw [e1]; simp
    have hl := len_lt e1
    have hl3 := len_lt e3
    have hrow := row_of_parts hk ih (d := d) (dp := dp + 1) e2 hW (.inr ⟨_, rfl⟩) (by omega) (by omega)
    have en : ((pre ++ [[40]]).length : Int) = (pre.length : Int) + 1 := by simp
    have ed : ((dp + 1 : Nat) : Int) = (dp : Int) + 1 := by simp
    rw [en, ed] at hrow
    refine .of (cf5 d _) fun S => ?_
    refine wRun ?_
    unfold b5
    walk_at "ev"
    refine .mk (lenT W S) ?_
    refine ⟨_, _, rfl, itF (decide_eq_false (by omega)) ?_⟩
    walk_at "ev"
    refine .mk (ixT e1 S) ?_
    walk_at "evr"
    refine hrow.use fun J => ?_
    refine ⟨_, _, tgT2, ?_⟩
    have e9 : (pre ++ [[40]]).length + ws.length = (pre ++ [[40]] ++ ws).length := by simp <;> omega
    rw [e9]
    walk_at "ev"
    refine .mk (lenT W _) ?_
    refine ⟨_, _, rfl, itF (decide_eq_false (by omega)) ?_⟩
    walk_at "ev"
    refine .mk (ixT e3 _) ?_
    walk_at "ev"
    refine ⟨_, _, rfl, itF rfl ?_⟩
    walk_at "ev"
    refine .mk rfl ?_
    walk_at "ev"
    refine ⟨by show 2 ≤ LINE; decide, ?_⟩
    exact ⟨rdE (t := t) (by simp <;> omega), J, rfl⟩
  | @fn ws t h k ns hk g hn hl ih =>
    intro W pre rest d dp e hW hd hr hE
    obtain ⟨d, rfl⟩ : ∃ e, d = e + 2 := ⟨d - 2, by omega⟩
    have e1 : W = pre ++ [33] :: (ns.map Nm.s ++ [46] :: (ws ++ rest)) := by rw [e]; simp
    have e2 : W = (pre ++ [[33]]) ++ (ns.map Nm.s ++ [46] :: (ws ++ rest)) := by rw [e1]; simp
    have e3 : W = (pre ++ [[33]] ++ ns.map Nm.s) ++ [46] :: (ws ++ rest) := by rw [e1]; simp
    have e4 : W = (pre ++ [[33]] ++ ns.map Nm.s ++ [[46]]) ++ (ws ++ rest) := by rw [e1]; simp
    have hl1 := len_lt e1
    have hl3 := len_lt e3
    have hrow := row_of_parts hk ih (d := d + 1) (dp := dp + 1) e4 hW hE (by omega) (by omega)
    have ed : ((dp + 1 : Nat) : Int) = (dp : Int) + 1 := by simp
    have en3 : (((pre ++ [[33]] ++ ns.map Nm.s).length : Nat) : Int) = (((pre ++ [[33]]).length + ns.length : Nat) : Int) := by simp <;> omega
    have en4 : (((pre ++ [[33]] ++ ns.map Nm.s ++ [[46]]).length : Nat) : Int) = (((pre ++ [[33]]).length + ns.length : Nat) : Int) + 1 := by simp <;> omega
    rw [en4, ed] at hrow
    have en : ((pre ++ [[33]]).length : Int) = (pre.length : Int) + 1 := by simp
    refine .of (cf5 (d + 1) _) fun S => ?_
    refine wRun ?_
    unfold b5
    walk_at "ev"
    refine .mk (lenT W S) ?_
    refine ⟨_, _, rfl, itF (decide_eq_false (by omega)) ?_⟩
    walk_at "ev"
    refine .mk (ixT e1 S) ?_
    walk_at "evr"
    rw [← en]
    refine nm_loop (S0 := S) (l := S.length) (Nat.le_refl _) ns (pre ++ [[33]]) [] _ 100000 e2 (by omega) (Ext.refl.push _) lastS (by simp <;> omega) fun S' eS g' => ?_
    obtain ⟨J, rfl⟩ := eS
    have hne : ns.isEmpty = false := by cases ns with
      | nil => exact absurd rfl hn
      | cons _ _ => rfl
    have hD : DatL 0 (ns.map fun m => PV.str m.s) := .of fun x hx => by
      obtain ⟨m, _, rfl⟩ := List.mem_map.mp hx
      exact .str _ m.ok
    have g' : (S ++ J)[S.length]? = some (.lst (ns.map fun m => PV.str m.s)) := g'
    walk_at "ev"
    refine ⟨by show 0 ≤ LINE; decide, ?_⟩
    refine ⟨_, _, eqLstNil hD (by omega) (grown g') lastS, itF (by rw [isE (ys := ns) (by simp)]; exact hne) ?_⟩
    walk_at "ev"
    refine .mk (lenT W _) ?_
    refine ⟨_, _, rfl, itF (decide_eq_false (by omega)) ?_⟩
    walk_at "ev"
    rw [← en3]
    refine .mk (ixT e3 _) ?_
    walk_at "ev"
    refine ⟨_, _, rfl, itF rfl ?_⟩
    walk_at "ev"
    refine .mk rfl ?_
    walk_at "ev"
    refine .mk rfl ?_
    walk_at "ev"
    refine ⟨rfl, ?_⟩
    rw [en3]
    refine hrow.use fun J2 => ?_
    refine ⟨_, _, tgT2, ?_⟩
    refine wsSeq (wsFor ?_)
    have gf : (S ++ J ++ [SO.lst []] ++ J2)[S.length]? = some (.lst (ns.map fun m => PV.str m.s)) := grown (grown g')
    refine wOf ?_
    walk_at "ev"
    refine .mk (revL gf) ?_
    refine ⟨_, srcL lastS, ?_⟩
    rw [← List.map_reverse]
    refine fn_loop (xs := ns.reverse) lastS ns.reverse [] t _ none rfl ?_ fun y => ?_
    · show _ < (_ : Nat) + 65537
      simp
      omega
    · walk_at "ev"
      refine ⟨by show 2 ≤ LINE; decide, ?_⟩
      refine ⟨rdE (t := fnsR ns.reverse t) (by simp <;> omega), _, by simp only [List.append_assoc]; rfl⟩
  | @one ws t h g ih =>
    intro W pre rest d dp e hW hd hr S N x y Q hN q
    exact row_one (ih W pre rest d dp e hW hd hr) fun J => q J N y (by omega)
  | @app ws vs a b h g k ih ih2 =>
    intro W pre rest d dp e hW hd hr S N x y Q hN q
    obtain ⟨w, r, ew, h1, h2⟩ := k.head
    have e1 : W = pre ++ (ws ++ (vs ++ rest)) := by rw [e]; simp
    have e2 : W = (pre ++ ws) ++ w :: (r ++ rest) := by rw [e1, ew]; simp
    have e3 : W = (pre ++ ws) ++ (vs ++ rest) := by rw [e1]; simp
    have hv : vs.length = r.length + 1 := by rw [ew]; rfl
    rw [List.length_append] at hN q
    refine ih W pre (vs ++ rest) d dp e1 hW hd hr S N x y Q (by omega) fun J n y hn => ?_
    obtain ⟨n, rfl⟩ : ∃ m, n = m + 1 := ⟨n - 1, by omega⟩
    have hp := ih2 W (pre ++ ws) rest d dp e3 hW hd hr
    have := row_more (m := n) (a := a) (y := y) (S := S ++ J) (Q := Q) e2 h1 h2 hp fun J2 y => by
      have e5 : (pre ++ ws).length + vs.length = pre.length + (ws.length + vs.length) := by simp <;> omega
      rw [e5, List.append_assoc]
      exact q _ n y (by omega)
    rw [List.length_append] at this
    exact this

/-! the words of a told term -/
theorem rowNP : So.row ≠ .part := by intro h; cases h
theorem opnNP : So.opn ≠ .part := by intro h; cases h
def LexTo (s : List Nat) (ws : List Wd) : Prop := ∀ c r, c ∉ sgs → lexS (s ++ c :: r) [] = ws ++ lexS (c :: r) []
theorem lexS_word : ∀ (w w0 r : List Nat), (∀ c ∈ w, c ∈ sgs) → lexS (w ++ r) w0 = lexS r (w0 ++ w)
  | [], w0, r, _ => by simp
  | c :: w, w0, r, h => by
    show lexS (c :: (w ++ r)) w0 = _
    rw [lexS, if_pos (h c (by simp)), lexS_word w (w0 ++ [c]) r fun d hd => h d (by simp [hd])]
    simp
theorem lexTo_word {w : Wd} (hn : w ≠ []) (h : ∀ c ∈ w, c ∈ sgs) : LexTo w [w] := fun c r hc => by
  rw [lexS_word w [] (c :: r) h, lexS, if_neg hc, lexS, if_neg hc]
  unfold flush
  simp [hn]
theorem lexP {c : Nat} {x : List Nat} (h : c ∈ pcs) : lexS (c :: x) [] = [c] :: lexS x [] := by
  have h2 : c ∉ sgs := by
    have : ∀ c ∈ pcs, c ∉ sgs := by decide
    exact this c h
  rw [lexS, if_neg h2]
  unfold flush punc
  rw [if_pos h, if_pos rfl]
  rfl
theorem lexW {c : Nat} {x : List Nat} (h : c = 32 ∨ c = 10) : lexS (c :: x) [] = lexS x [] := by
  have h2 : c ∉ sgs ∧ c ∉ pcs := by rcases h with rfl | rfl <;> decide
  rw [lexS, if_neg h2.1]
  unfold flush punc
  rw [if_neg h2.2, if_pos rfl]
  rfl
theorem Nm.sg (n : Nm) : ∀ c ∈ n.s, c ∈ sgs := by cases n <;> decide
theorem Nm.ne (n : Nm) : n.s ≠ [] := by cases n <;> decide
theorem num_sg (k : _root_.Fin 9) : ∀ c ∈ numS k, c ∈ sgs := by
  revert k
  apply fin9 <;> decide
theorem lexTo_nm (n : Nm) : LexTo n.s [n.s] := lexTo_word n.ne n.sg
theorem lexTo_num (k : _root_.Fin 9) : LexTo (numS k) [numS k] := lexTo_word (by unfold numS; simp) (num_sg k)
theorem no41 : 41 ∉ sgs := by decide
theorem no46 : 46 ∉ sgs := by decide
theorem no32 : 32 ∉ sgs := by decide
theorem no10 : 10 ∉ sgs := by decide
theorem lexTo_par {s : List Nat} {ws : List Wd} (h : LexTo s ws) : LexTo ([40] ++ s ++ [41]) ([40] :: (ws ++ [[41]])) := fun c r hc => by
  have e : [40] ++ s ++ [41] ++ c :: r = 40 :: (s ++ 41 :: (c :: r)) := by simp
  rw [e, lexP (by decide), h 41 _ no41, lexP (by decide)]
  simp
theorem lexTo_two {s u : List Nat} {ws vs : List Wd} {c0 : Nat} (h0 : c0 = 32 ∨ c0 = 10) (h : LexTo s ws) (k : LexTo u vs) : LexTo (s ++ [c0] ++ u) (ws ++ vs) := fun c r hc => by
  have e : s ++ [c0] ++ u ++ c :: r = s ++ c0 :: (u ++ c :: r) := by simp
  have hn : c0 ∉ sgs := by rcases h0 with rfl | rfl <;> decide
  rw [e, h c0 _ hn, lexW h0, k c r hc]
  simp
theorem Tm.full_lex : ∀ t : Tm, ∀ h, 2 * t.dep ≤ h → ∃ ws, LexTo t.full ws ∧ Gr .part ws t h
  | .nm n, h, _ => ⟨_, lexTo_nm n, .nm n h⟩
  | .num k, h, _ => ⟨_, lexTo_num k, .num k h⟩
  | .fn m b, h, hh => by
    have hh : 2 * (b.dep + 1) ≤ h := hh
    obtain ⟨h, rfl⟩ : ∃ k, h = k + 2 := ⟨h - 2, by omega⟩
    obtain ⟨ws, l, g⟩ := b.full_lex h (by omega)
    refine ⟨_, ?_, .par (k := .opn) opnNP (.fn (k := .row) (ns := [m]) rowNP (.one g) (by simp) (by simp))⟩
    have e : (Tm.fn m b).full = [40] ++ ([33] ++ m.s ++ [46] ++ b.full) ++ [41] := by simp [Tm.full]
    rw [e]
    refine lexTo_par fun c r hc => ?_
    have e : [33] ++ m.s ++ [46] ++ b.full ++ c :: r = 33 :: (m.s ++ 46 :: (b.full ++ c :: r)) := by simp
    rw [e, lexP (by decide), lexTo_nm m 46 _ no46, lexP (by decide), l c r hc]
    simp
  | .ap a b, h, hh => by
    have hh : 2 * (max a.dep b.dep + 1) ≤ h := hh
    obtain ⟨h, rfl⟩ : ∃ k, h = k + 1 := ⟨h - 1, by omega⟩
    obtain ⟨ws, l1, g1⟩ := a.full_lex h (by omega)
    obtain ⟨vs, l2, g2⟩ := b.full_lex h (by omega)
    refine ⟨_, ?_, .par (k := .row) rowNP (.app (.one g1) g2)⟩
    have e : (Tm.ap a b).full = [40] ++ (a.full ++ [10] ++ b.full) ++ [41] := by simp [Tm.full]
    rw [e]
    exact lexTo_par (lexTo_two (.inr rfl) l1 l2)
theorem joinN_lex : ∀ (n : Nm) (ns : List Nm) (c : Nat) (r : List Nat), c ∉ sgs → lexS (joinN (n :: ns) ++ c :: r) [] = (n :: ns).map Nm.s ++ lexS (c :: r) []
  | n, [], c, r, hc => lexTo_nm n c r hc
  | n, m :: ns, c, r, hc => by
    have e : joinN (n :: m :: ns) ++ c :: r = n.s ++ 32 :: (joinN (m :: ns) ++ c :: r) := by simp [joinN]
    rw [e, lexTo_nm n 32 _ no32, lexW (.inl rfl), joinN_lex m ns c r hc]
    simp
theorem fns_core : ∀ t : Tm, fns t.names t.core = t
  | .fn m b => by
    show fns (m :: b.names) b.core = _
    rw [fns_cons, fns_core b]
  | .nm _ => rfl
  | .num _ => rfl
  | .ap _ _ => rfl
structure TG (t : Tm) (h : Nat) : Prop where
  last : ∃ ws, LexTo (t.text .last) ws ∧ Gr .part ws t h
  first : ∃ ws, LexTo (t.text .first) ws ∧ Gr .row ws t h
  all : ∃ ws k, k ≠ So.part ∧ LexTo (t.text .all) ws ∧ Gr k ws t h
  core : ∃ ws k, k ≠ So.part ∧ LexTo (t.core.text .all) ws ∧ Gr k ws t.core h
theorem Tm.text_lex : ∀ t : Tm, t.dep ≤ 50 → ∀ h, 2 * t.dep ≤ h → TG t h
  | .nm n, _, h, _ => ⟨⟨_, lexTo_nm n, .nm n h⟩, ⟨_, lexTo_nm n, .one (.nm n h)⟩, ⟨_, .row, rowNP, lexTo_nm n, .one (.nm n h)⟩, ⟨_, .row, rowNP, lexTo_nm n, .one (.nm n h)⟩⟩
  | .num k, _, h, _ => ⟨⟨_, lexTo_num k, .num k h⟩, ⟨_, lexTo_num k, .one (.num k h)⟩, ⟨_, .row, rowNP, lexTo_num k, .one (.num k h)⟩, ⟨_, .row, rowNP, lexTo_num k, .one (.num k h)⟩⟩
  | .ap a b, h50, h, hh => by
    have hh : 2 * (max a.dep b.dep + 1) ≤ h := hh
    have h50 : max a.dep b.dep + 1 ≤ 50 := h50
    obtain ⟨ws, l1, g1⟩ := (a.text_lex (by omega) h (by omega)).first
    obtain ⟨vs, l2, g2⟩ := (b.text_lex (by omega) h (by omega)).last
    have R := (Gr.app g1 g2)
    have L := lexTo_two (.inl rfl) l1 l2
    obtain ⟨h, rfl⟩ : ∃ k, h = k + 1 := ⟨h - 1, by omega⟩
    obtain ⟨ws', l1', g1'⟩ := (a.text_lex (by omega) h (by omega)).first
    obtain ⟨vs', l2', g2'⟩ := (b.text_lex (by omega) h (by omega)).last
    exact ⟨⟨_, lexTo_par (lexTo_two (.inl rfl) l1' l2'), .par (k := .row) rowNP (.app g1' g2')⟩, ⟨_, L, R⟩, ⟨_, .row, rowNP, L, R⟩, ⟨_, .row, rowNP, L, R⟩⟩
  | .fn m b, h50, h, hh => by
    have hh : 2 * (b.dep + 1) ≤ h := hh
    have h50 : b.dep + 1 ≤ 50 := h50
    have hn := b.names_len
    obtain ⟨h, rfl⟩ : ∃ k, h = k + 2 := ⟨h - 2, by omega⟩
    have O : ∀ h, 2 * b.dep ≤ h → ∃ ws, LexTo ((Tm.fn m b).text .all) ws ∧ Gr .opn ws (.fn m b) (h + 1) := by
      intro h hh
      obtain ⟨ws, k, hk, l, g⟩ := (b.text_lex (by omega) h hh).core
      have g2 := Gr.fn (ns := m :: b.names) hk g (by simp) (by simp; omega)
      rw [fns_cons, fns_core] at g2
      refine ⟨_, ?_, g2⟩
      intro c r hc
      rw [Tm.text_names]
      have e : [33] ++ joinN (m :: b.names) ++ [46, 32] ++ b.core.text .all ++ c :: r = 33 :: (joinN (m :: b.names) ++ 46 :: (32 :: (b.core.text .all ++ c :: r))) := by simp
      rw [e, lexP (by decide), joinN_lex m b.names 46 _ no46, lexP (by decide), lexW (.inl rfl), l c r hc]
      simp
    have P : ∃ ws, LexTo ([40] ++ (Tm.fn m b).text .all ++ [41]) ws ∧ Gr .part ws (.fn m b) (h + 2) := by
      obtain ⟨ws, l, g⟩ := O h (by omega)
      exact ⟨_, lexTo_par l, .par (k := .opn) opnNP g⟩
    have ef : (Tm.fn m b).text .first = [40] ++ (Tm.fn m b).text .all ++ [41] := rfl
    have el : (Tm.fn m b).text .last = [40] ++ (Tm.fn m b).text .all ++ [41] := rfl
    refine ⟨?_, ?_, ?_, (b.text_lex (by omega) (h + 2) (by omega)).core⟩
    · rw [el]; exact P
    · rw [ef]
      obtain ⟨ws, l, g⟩ := P
      exact ⟨ws, l, .one g⟩
    · obtain ⟨ws, l, g⟩ := O (h + 1) (by omega)
      exact ⟨ws, .opn, opnNP, l, g⟩
theorem lexTo_wds {s : List Nat} {ws : List Wd} (h : LexTo s ws) : wds s = ws := by
  unfold wds
  rw [h 32 [] no32, lexW (.inl rfl)]
  simp [lexS]
theorem lexS_len : ∀ (s : List Nat) (w : Wd), (lexS s w).length ≤ 2 * s.length
  | [], w => Nat.le_refl _
  | c :: r, w => by
    rw [lexS]
    have h1 := lexS_len r (w ++ [c])
    have h2 := lexS_len r []
    have f1 := flush_len w
    have f2 := punc_len c
    split
    · rw [List.length_cons]; omega
    · rw [List.length_append, List.length_append, List.length_cons]; omega
instance : DecidablePred okC := fun c => by unfold okC; infer_instance
theorem okC_nm (n : Nm) : ∀ c ∈ n.s, okC c := fun c hc => .inl (n.sg c hc)
theorem okC_num (k : _root_.Fin 9) : ∀ c ∈ numS k, okC c := fun c hc => .inl (num_sg k c hc)
theorem Tm.full_ok : ∀ t : Tm, ∀ c ∈ t.full, okC c
  | .nm n => okC_nm n
  | .num k => okC_num k
  | .fn m b => by
    intro c hc
    simp only [Tm.full, List.mem_append, List.mem_cons, List.not_mem_nil, or_false] at hc
    rcases hc with (((h | h) | h) | h) | h
    · rcases h with rfl | rfl <;> decide
    · exact okC_nm m c h
    · subst h; decide
    · exact b.full_ok c h
    · subst h; decide
  | .ap a b => by
    intro c hc
    simp only [Tm.full, List.mem_append, List.mem_cons, List.not_mem_nil, or_false] at hc
    rcases hc with (((h | h) | h) | h) | h
    · subst h; decide
    · exact a.full_ok c h
    · subst h; decide
    · exact b.full_ok c h
    · subst h; decide
theorem brk_ok {b : Bool} {s : List Nat} (h : ∀ c ∈ s, okC c) : ∀ c ∈ brk b s, okC c := by
  intro c hc
  unfold brk at hc
  split at hc
  · simp only [List.mem_append, List.mem_cons, List.not_mem_nil, or_false] at hc
    rcases hc with (h1 | h1) | h1
    · subst h1; decide
    · exact h c h1
    · subst h1; decide
  · exact h c hc
theorem Tm.text_ok : ∀ (t : Tm) (w : Wh), ∀ c ∈ t.text w, okC c
  | .nm n, _ => okC_nm n
  | .num k, _ => okC_num k
  | .fn m b, w => by
    have ih := b.text_ok .all
    show ∀ c ∈ brk _ _, okC c
    refine brk_ok ?_
    intro c hc
    simp only [List.mem_append, List.mem_cons, List.not_mem_nil, or_false] at hc
    rcases hc with (h | h) | h
    · subst h; decide
    · exact okC_nm m c h
    · split at h
      · simp only [List.mem_append, List.mem_cons, List.not_mem_nil, or_false] at h
        rcases h with h | h
        · subst h; decide
        · exact ih c (List.mem_of_mem_tail h)
      · simp only [List.mem_append, List.mem_cons, List.not_mem_nil, or_false] at h
        rcases h with (rfl | rfl) | h
        · decide
        · decide
        · exact ih c h
  | .ap a b, w => by
    have h1 := a.text_ok .first
    have h2 := b.text_ok .last
    show ∀ c ∈ brk _ _, okC c
    refine brk_ok ?_
    intro c hc
    simp only [List.mem_append, List.mem_cons, List.not_mem_nil, or_false] at hc
    rcases hc with (h | h) | h
    · exact h1 c h
    · subst h; decide
    · exact h2 c h
theorem read_s {s : List Nat} {ws : List Wd} {k : So} {t : Tm} {h d : Nat} (hok : ∀ c ∈ s, okC c) (hl : s.length ≤ 20000) (L : LexTo s ws) (hk : k ≠ .part) (g : Gr k ws t h) (hh : h ≤ 60) (hd : 2 * h + 6 ≤ d) : PureJ (callF d) 3 [.str s] t.pv := by
  obtain ⟨d, rfl⟩ : ∃ e, d = e + 2 := ⟨d - 2, by omega⟩
  have hW : ws.length ≤ 50000 := by
    rw [← lexTo_wds L]
    refine Nat.le_trans (lexS_len _ _) ?_
    rw [List.length_append, List.length_singleton]
    omega
  have hr := row_of_parts hk g.ok (W := ws) (pre := []) (rest := []) (d := d + 1) (dp := 0) (by simp) hW (.inl rfl) (by omega) (by omega)
  refine .of (cf3 (d + 1) _) fun S => ?_
  refine wRun ?_
  unfold b3
  walk_at "ev"
  refine ⟨rfl, ?_⟩
  refine (words_s d hok (by omega)).use fun J => ?_
  rw [lexTo_wds L]
  walk_at "evr"
  refine hr.use fun J2 => ?_
  refine ⟨_, _, tgT2, ?_⟩
  walk_at "ev"
  refine .mk (lenT ws _) ?_
  have e0 : (([] : List Wd).length + ws.length) = ws.length := by simp
  rw [e0]
  refine ⟨_, _, (Dat.int 0 _).ne (by omega) _, itF rfl ?_⟩
  walk_at "ev"
  exact ⟨rfl, _, by rw [List.append_assoc]⟩

/-! rows of names, each once -/
theorem Nm.inj {a b : Nm} (h : a.s = b.s) : a = b := by
  cases a <;> cases b <;> first | rfl | (exact absurd h (by decide))
theorem Nm.eqF (a b : Nm) : eqF (.str a.s) (.str b.s) = decide (a = b) := by
  cases a <;> cases b <;> rfl
abbrev nv (ns : List Nm) : List PV := ns.map fun m => PV.str m.s
def ins (ks : List Nm) (n : Nm) : List Nm := if n ∈ ks then ks else ks ++ [n]
def dd (ns : List Nm) : List Nm := ns.foldl ins []
abbrev kv (v : PV) (ns : List Nm) : List (PV × PV) := ns.map fun m => (PV.str m.s, v)
theorem hasP_kv (v : PV) (n : Nm) : ∀ ks : List Nm, hasP (.str n.s) (kv v ks) = decide (n ∈ ks)
  | [] => rfl
  | k :: ks => by
    have ih := hasP_kv v n ks
    show (Ev.eqF (.str k.s) (.str n.s) || hasP (.str n.s) (kv v ks)) = _
    rw [Nm.eqF, ih]
    by_cases h : k = n
    · subst h; simp
    · have : n ≠ k := fun e => h e.symm
      simp [h, this]
theorem putP_same (v : PV) (n : Nm) : ∀ ks : List Nm, ((kv v ks).map fun kv => if Ev.eqF kv.1 (.str n.s) then (kv.1, v) else kv) = kv v ks
  | [] => rfl
  | k :: ks => by
    have ih := putP_same v n ks
    simp only [kv, List.map_cons, List.map_map] at ih ⊢
    congr 1
    split <;> rfl
theorem putP_kv (v : PV) (ks : List Nm) (n : Nm) : putP (kv v ks) (.str n.s) v = kv v (ins ks n) := by
  unfold putP ins
  rw [hasP_kv]
  by_cases h : n ∈ ks
  · rw [if_pos (decide_eq_true h), if_pos h, putP_same]
  · rw [if_neg (by rw [decide_eq_true_eq]; exact h), if_neg h]
    simp [kv]
theorem fold_kv (v : PV) : ∀ (ns ks : List Nm), (nv ns).foldl (fun acc x => putP acc x v) (kv v ks) = kv v (ns.foldl ins ks)
  | [], ks => rfl
  | n :: ns, ks => by
    show (nv ns).foldl _ (putP (kv v ks) (.str n.s) v) = _
    rw [putP_kv, fold_kv v ns]
    rfl
theorem ins_len (ks : List Nm) (n : Nm) : (ins ks n).length ≤ ks.length + 1 := by
  unfold ins
  split
  · omega
  · rw [List.length_append]; exact Nat.le_refl _
theorem dd_len0 : ∀ (ns ks : List Nm), (ns.foldl ins ks).length ≤ ks.length + ns.length
  | [], ks => Nat.le_refl _
  | n :: ns, ks => by
    have h1 := dd_len0 ns (ins ks n)
    have h2 := ins_len ks n
    show (ns.foldl ins (ins ks n)).length ≤ ks.length + (ns.length + 1)
    omega
theorem dd_len (ns : List Nm) : (dd ns).length ≤ ns.length := by
  have := dd_len0 ns []
  unfold dd
  simpa using this
def Tm.free : Tm → List Nm
  | .nm n => [n]
  | .num _ => []
  | .fn m b => dd (b.free.filter fun n => decide (n ≠ m))
  | .ap a b => dd (a.free ++ b.free)
def Tm.all : Tm → List Nm
  | .nm n => [n]
  | .num _ => []
  | .fn m b => dd ([m] ++ b.all)
  | .ap a b => dd (a.all ++ b.all)
theorem Tm.free_len : ∀ t : Tm, t.free.length ≤ t.size
  | .nm _ => Nat.le_refl _
  | .num _ => Nat.zero_le _
  | .fn m b => by
    have := b.free_len
    refine Nat.le_trans (dd_len _) (Nat.le_trans (List.length_filter_le _ _) ?_)
    show _ ≤ 1 + b.size
    omega
  | .ap a b => by
    have h1 := a.free_len
    have h2 := b.free_len
    refine Nat.le_trans (dd_len _) ?_
    rw [List.length_append]
    show _ ≤ 1 + b.size + a.size
    omega
theorem Tm.all_len : ∀ t : Tm, t.all.length ≤ t.size
  | .nm _ => Nat.le_refl _
  | .num _ => Nat.zero_le _
  | .fn m b => by
    have := b.all_len
    refine Nat.le_trans (dd_len _) ?_
    rw [List.length_append]
    show 1 + _ ≤ 1 + b.size
    omega
  | .ap a b => by
    have h1 := a.all_len
    have h2 := b.all_len
    refine Nat.le_trans (dd_len _) ?_
    rw [List.length_append]
    show _ ≤ 1 + b.size + a.size
    omega
theorem filter_nv (m : Nm) (f : PV → Bool) (hf : ∀ n : Nm, f (.str n.s) = decide (n ≠ m)) : ∀ ns : List Nm, (nv ns).filter f = nv (ns.filter fun n => decide (n ≠ m))
  | [] => rfl
  | n :: ns => by
    have ih := filter_nv m f hf ns
    simp only [nv, List.map_cons, List.filter_cons, hf] at ih ⊢
    split
    · rw [List.map_cons, ih]
    · exact ih
theorem filter_yes {α : Type} (xs : List α) : xs.filter (fun _ => true) = xs := by simp
/-- n != m of names -/
def neN (m : Nm) : PV → Bool
  | .str s => !decide (s = m.s)
  | _ => true
theorem neN_ok (m n : Nm) : neN m (.str n.s) = decide (n ≠ m) := by cases m <;> cases n <;> rfl
theorem tup_keys {S : Store} {l : Nat} {ks : List Nm} {v : PV} (h : S[l]? = some (.dic (kv v ks))) : tupP2 [.loc l] S = some (.tup (nv ks), S) := by
  unfold tupP2
  simp only [h]
  simp [kv, nv]
theorem pairs_kv (v : PV) : ∀ ns : List Nm, pairsOf (ns.map fun m => PV.tup [.str m.s, v]) = some (kv v ns)
  | [] => rfl
  | n :: ns => by
    show (match pairOf (.tup [.str n.s, v]), pairsOf (ns.map fun m => PV.tup [.str m.s, v]) with
      | some p, some l => some (p :: l)
      | _, _ => none) = _
    rw [pairs_kv v ns]
    rfl
theorem merge_kv (v : PV) : ∀ (ns ks : List Nm), mergeP (kv v ks) (kv v ns) = kv v (ns.foldl ins ks)
  | [], ks => rfl
  | n :: ns, ks => by
    show mergeP (putP (kv v ks) (.str n.s) v) (kv v ns) = _
    rw [putP_kv, merge_kv v ns]
    rfl
theorem dicL {S : Store} {l : Nat} {v : PV} {ns : List Nm} (h : S[l]? = some (.lst (ns.map fun m => PV.tup [.str m.s, v]))) : dicP [.loc l] S = some (.loc S.length, S ++ [.dic (kv v (dd ns))]) := by
  unfold dicP
  simp only [h, pairs_kv]
  have := merge_kv v ns []
  show some (PV.loc S.length, S ++ [SO.dic (mergeP (kv v []) (kv v ns))]) = _
  rw [this]
  rfl
theorem lstD {S : Store} {l : Nat} {v : PV} {ks : List Nm} (h : S[l]? = some (.dic (kv v ks))) : lstP [.loc l] S = some (.loc S.length, S ++ [.lst (nv ks)]) := by
  unfold lstP
  simp only [h]
  simp [kv, nv]

theorem nv_mem {x : PV} {ns : List Nm} (h : x ∈ nv ns) : ∃ n : Nm, x = .str n.s := by
  obtain ⟨n, _, rfl⟩ := List.mem_map.mp h
  exact ⟨n, rfl⟩
theorem ne_nm (n m : Nm) (S : Store) : neP (.str n.s) (.str m.s) S = some (.bl (neN m (.str n.s)), S) := neStr n.ok m.ok S
theorem setD {S : Store} {l : Nat} {k v : PV} {kvs : List (PV × PV)} (h : S[l]? = some (.dic kvs)) (hk : keyP k = true) (hl : kvs.length < LINE) : setP (.loc l) k v S = some (S.set l (.dic (putP kvs k v))) := by
  unfold setP
  simp only [h, if_pos (And.intro hk hl)]
theorem set_last {S : Store} {o o' : SO} : (S ++ [o]).set S.length o' = S ++ [o'] := by
  rw [List.set_append_right _ _ (Nat.le_refl _), Nat.sub_self]; rfl
theorem fold_free (m : Nm) (ns : List Nm) : ((nv ns).filter (neN m)).foldl (fun acc x => putP acc x (.bl true)) [] = kv (.bl true) (dd (ns.filter fun n => decide (n ≠ m))) := by
  rw [filter_nv m (neN m) (neN_ok m) ns]
  exact fold_kv (.bl true) _ []
theorem fold_all (ns : List Nm) : ((nv ns).filter fun _ => true).foldl (fun acc x => putP acc x (.bl true)) [] = kv (.bl true) (dd ns) := by
  rw [filter_yes]
  exact fold_kv (.bl true) _ []
theorem free_s : ∀ (t : Tm) (d : Nat), t.dep < d → t.dep ≤ 10 → PureJ (callF d) 9 [t.pv] (.tup (nv t.free))
  | t, 0, h, _ => absurd h (Nat.not_lt_zero _)
  | .nm n, e + 1, hd, _ => .of (cf9 e _) fun S => by
    refine wRun ?_
    unfold b9
    walk_at "evr"
    refine ⟨[some (.str n.s), some (.loc S.length), none], S ++ [.dic [(.str n.s, .bl true)]], ?_, ?_⟩
    · show (match setP (.loc S.length) (.str n.s) (.bl true) (S ++ [.dic []]) with | some S3 => some ([some (PV.str n.s), some (PV.loc S.length), none], S3) | none => none) = _
      rw [setD lastS rfl (by show 0 < 16777216; omega), set_last]
      rfl
    · walk_at "ev"
      refine .mk (tup_keys (v := .bl true) (ks := [n]) lastS) ?_
      exact ⟨rfl, _, rfl⟩
  | .num k, e + 1, hd, _ => .of (cf9 e _) fun S => by
    refine wRun ?_
    unfold b9
    walk_at "evr"
    refine .mk (tup_keys (v := .bl true) (ks := []) lastS) ?_
    exact ⟨rfl, _, rfl⟩
  | .fn m b, e + 1, hd, h10 => .of (cf9 e _) fun S => by
    have hb : b.dep < e := by have : b.dep + 1 < e + 1 := hd; omega
    have hs : b.dep ≤ 10 := by have : b.dep + 1 ≤ 10 := h10; omega
    have hl := b.free_len
    have hz := Tm.size_le hs
    refine wRun ?_
    unfold b9
    walk_at "evr"
    refine wDcT (xs := nv b.free) (p := neN m) (f := fun x => x) (g := fun _ => .bl true) ?_
    walk_at "evr"
    refine (free_s b e hb hs).use fun J => ?_
    refine ⟨rfl, by rw [List.length_map]; omega, fun x hx S' => ?_, fun x hx S' => ?_, fun x hx S' => rfl, ?_⟩
    · obtain ⟨n, rfl⟩ := nv_mem hx
      show (match neP (.str n.s) (.str m.s) S' with | some (.bl k, S3) => R.ok k S3 | _ => R.bad) = _
      rw [ne_nm]
    · obtain ⟨n, rfl⟩ := nv_mem hx
      exact ⟨rfl, rfl⟩
    · rw [fold_free]
      walk_at "evr"
      refine .mk (tup_keys lastS) ?_
      exact ⟨rfl, _, by simp only [List.append_assoc]; rfl⟩
  | .ap a b, e + 1, hd, h10 => .of (cf9 e _) fun S => by
    have hb : max a.dep b.dep < e := by have : max a.dep b.dep + 1 < e + 1 := hd; omega
    have hs : max a.dep b.dep ≤ 10 := by have : max a.dep b.dep + 1 ≤ 10 := h10; omega
    have hl1 := a.free_len
    have hz1 := Tm.size_le (t := a) (by omega)
    have hl2 := b.free_len
    have hz2 := Tm.size_le (t := b) (by omega)
    refine wRun ?_
    unfold b9
    walk_at "evr"
    refine wDcT (xs := nv (a.free ++ b.free)) (p := fun _ => true) (f := fun x => x) (g := fun _ => .bl true) ?_
    walk_at "evr"
    refine (free_s a e (by omega) (by omega)).use fun J1 => ?_
    walk_at "evr"
    refine (free_s b e (by omega) (by omega)).use fun J2 => ?_
    refine .mk (addT (by rw [List.length_map, List.length_map]; exact small (by omega))) ?_
    refine ⟨by simp [nv], by rw [List.length_map, List.length_append]; omega, fun x hx S' => rfl, fun x hx S' => ?_, fun x hx S' => rfl, ?_⟩
    · obtain ⟨n, rfl⟩ := nv_mem hx
      exact ⟨rfl, rfl⟩
    · rw [fold_all]
      walk_at "evr"
      refine .mk (tup_keys lastS) ?_
      exact ⟨rfl, _, by simp only [List.append_assoc]; rfl⟩
theorem all_s : ∀ (t : Tm) (d : Nat), t.dep < d → t.dep ≤ 10 → PureJ (callF d) 10 [t.pv] (.tup (nv t.all))
  | t, 0, h, _ => absurd h (Nat.not_lt_zero _)
  | .nm n, e + 1, hd, _ => .of (cf10 e _) fun S => by
    refine wRun ?_
    unfold b10
    walk_at "evr"
    refine ⟨by show 1 ≤ LINE; decide, rfl, [], (List.append_nil _).symm⟩
  | .num k, e + 1, hd, _ => .of (cf10 e _) fun S => by
    refine wRun ?_
    unfold b10
    walk_at "evr"
    refine ⟨by show 0 ≤ LINE; decide, rfl, [], (List.append_nil _).symm⟩
  | .fn m b, e + 1, hd, h10 => .of (cf10 e _) fun S => by
    have hb : b.dep < e := by have : b.dep + 1 < e + 1 := hd; omega
    have hs : b.dep ≤ 10 := by have : b.dep + 1 ≤ 10 := h10; omega
    have hl := b.all_len
    have hz := Tm.size_le hs
    refine wRun ?_
    unfold b10
    walk_at "evr"
    refine wDcT (xs := nv ([m] ++ b.all)) (p := fun _ => true) (f := fun x => x) (g := fun _ => .bl true) ?_
    walk_at "evr"
    refine (all_s b e hb hs).use fun J => ?_
    refine .mk (addT (by rw [List.length_map]; exact small (by show 1 + _ ≤ 100000; omega))) ?_
    refine ⟨by simp [nv], by rw [List.length_map, List.length_append]; show 1 + _ ≤ 1000000; omega, fun x hx S' => rfl, fun x hx S' => ?_, fun x hx S' => rfl, ?_⟩
    · obtain ⟨n, rfl⟩ := nv_mem hx
      exact ⟨rfl, rfl⟩
    · rw [fold_all]
      walk_at "evr"
      refine .mk (tup_keys lastS) ?_
      exact ⟨rfl, _, by simp only [List.append_assoc]; rfl⟩
  | .ap a b, e + 1, hd, h10 => .of (cf10 e _) fun S => by
    have hb : max a.dep b.dep < e := by have : max a.dep b.dep + 1 < e + 1 := hd; omega
    have hs : max a.dep b.dep ≤ 10 := by have : max a.dep b.dep + 1 ≤ 10 := h10; omega
    have hl1 := a.all_len
    have hz1 := Tm.size_le (t := a) (by omega)
    have hl2 := b.all_len
    have hz2 := Tm.size_le (t := b) (by omega)
    refine wRun ?_
    unfold b10
    walk_at "evr"
    refine (all_s a e (by omega) (by omega)).use fun J1 => ?_
    walk_at "evr"
    refine wDcT (xs := nv (a.all ++ b.all)) (p := fun _ => true) (f := fun x => x) (g := fun _ => .bl true) ?_
    walk_at "evr"
    refine (all_s b e (by omega) (by omega)).use fun J2 => ?_
    refine .mk (addT (by rw [List.length_map, List.length_map]; exact small (by omega))) ?_
    refine ⟨by simp [nv], by rw [List.length_map, List.length_append]; omega, fun x hx S' => rfl, fun x hx S' => ?_, fun x hx S' => rfl, ?_⟩
    · obtain ⟨n, rfl⟩ := nv_mem hx
      exact ⟨rfl, rfl⟩
    · rw [fold_all]
      walk_at "evr"
      refine .mk (tup_keys lastS) ?_
      exact ⟨rfl, _, by simp only [List.append_assoc]; rfl⟩

abbrev one2 (x : PV) : PV := .tup [x, .int 1]
theorem map_yes (ns : List Nm) : ((nv ns).filter fun _ => true).map one2 = ns.map fun m => PV.tup [.str m.s, .int 1] := by
  rw [filter_yes]
  simp [nv, one2]
theorem lfree_s : ∀ (t : Tm) (d : Nat), t.dep < d → t.dep ≤ 10 → NewL (callF d) 26 [t.pv] (nv t.free)
  | t, 0, h, _ => absurd h (Nat.not_lt_zero _)
  | .nm n, e + 1, hd, _ => fun S => by
    rw [cf26]
    refine wRun ?_
    unfold b26
    walk_at "evr"
    refine ⟨by show 1 ≤ LINE; decide, _, [.lst [(Tm.nm n).pv]], rfl, rfl, Nat.le_refl _, lastS⟩
  | .num n, e + 1, hd, _ => fun S => by
    rw [cf26]
    refine wRun ?_
    unfold b26
    walk_at "evr"
    refine ⟨by show 0 ≤ LINE; decide, _, [.lst []], rfl, rfl, Nat.le_refl _, lastS⟩
  | .fn m b, e + 1, hd, h10 => fun S => by
    have hb : b.dep < e := by have : b.dep + 1 < e + 1 := hd; omega
    have hs : b.dep ≤ 10 := by have : b.dep + 1 ≤ 10 := h10; omega
    have hl := b.free_len
    have hz := Tm.size_le hs
    have hf := List.length_filter_le (fun n => decide (n ≠ m)) b.free
    rw [cf26]
    refine wRun ?_
    unfold b26
    walk_at "evr"
    refine wLcL (xs := nv b.free) (p := neN m) (f := fun x => x) ?_
    walk_at "evr"
    refine (lfree_s b e hb hs).use fun l J h1 h2 => ?_
    refine ⟨_, rfl, h2, by rw [List.length_map]; omega, fun x hx S' => ?_, fun x hx S' => rfl, ?_⟩
    · obtain ⟨n, rfl⟩ := nv_mem hx
      show (match neP (.str n.s) (.str m.s) S' with | some (.bl k, S3) => R.ok k S3 | _ => R.bad) = _
      rw [ne_nm]
    · rw [List.map_id', filter_nv m (neN m) (neN_ok m)]
      walk_at "evr"
      refine wLcL (xs := nv (b.free.filter fun n => decide (n ≠ m))) (p := fun _ => true) (f := one2) ?_
      walk_at "ev"
      refine ⟨_, rfl, lastS, by rw [List.length_map]; omega, fun x hx S' => rfl, fun x hx S' => rfl, ?_⟩
      rw [map_yes]
      walk_at "ev"
      refine .mk (dicL lastS) ?_
      walk_at "ev"
      refine .mk (lstD lastS) ?_
      refine ⟨_, _, rfl, by simp only [List.append_assoc]; rfl, ?_, lastS⟩
      simp only [List.length_append]
      omega
  | .ap a b, e + 1, hd, h10 => fun S => by
    have hb : max a.dep b.dep < e := by have : max a.dep b.dep + 1 < e + 1 := hd; omega
    have hs : max a.dep b.dep ≤ 10 := by have : max a.dep b.dep + 1 ≤ 10 := h10; omega
    have hl1 := a.free_len
    have hz1 := Tm.size_le (t := a) (by omega)
    have hl2 := b.free_len
    have hz2 := Tm.size_le (t := b) (by omega)
    rw [cf26]
    refine wRun ?_
    unfold b26
    walk_at "evr"
    refine (lfree_s a e (by omega) (by omega)).use fun l J h1 h2 => ?_
    walk_at "evr"
    refine (lfree_s b e (by omega) (by omega)).use fun l2 J2 h3 h4 => ?_
    refine .mk (addL (grown h2) h4 (by rw [List.length_map, List.length_map]; exact small (by omega))) ?_
    walk_at "evr"
    refine wLcL (xs := nv (a.free ++ b.free)) (p := fun _ => true) (f := one2) ?_
    walk_at "ev"
    refine ⟨_, rfl, by rw [lastS]; simp [nv], by rw [List.length_map, List.length_append]; omega, fun x hx S' => rfl, fun x hx S' => rfl, ?_⟩
    rw [map_yes]
    walk_at "ev"
    refine .mk (dicL lastS) ?_
    walk_at "ev"
    refine .mk (lstD lastS) ?_
    refine ⟨_, _, rfl, by simp only [List.append_assoc]; rfl, ?_, lastS⟩
    simp only [List.length_append]
    omega
theorem mulL {S : Store} {l : Nat} {xs : List PV} {k : Int} (h : S[l]? = some (.lst xs)) (h0 : 0 ≤ k) (h1 : k ≤ 1000) (hl : xs.length * k.toNat ≤ 100000) : mulP (.loc l) (.int k) S = some (.loc S.length, S ++ [.lst (List.replicate k.toNat xs).flatten]) := by
  unfold mulP
  simp only [h]
  rw [if_pos ⟨by omega, by omega, small hl⟩]
theorem lall_s : ∀ (t : Tm) (d : Nat), t.dep < d → t.dep ≤ 10 → NewL (callF d) 27 [t.pv] (nv t.all)
  | t, 0, h, _ => absurd h (Nat.not_lt_zero _)
  | .nm n, e + 1, hd, _ => fun S => by
    rw [cf27]
    refine wRun ?_
    unfold b27
    walk_at "evr"
    refine ⟨by show 1 ≤ LINE; decide, ?_⟩
    walk_at "evr"
    refine .mk (mulL (k := 1) lastS (by omega) (by omega) (by simp)) ?_
    refine ⟨_, _, rfl, by simp only [List.append_assoc]; rfl, ?_, lastS⟩
    simp only [List.length_append]
    omega
  | .num n, e + 1, hd, _ => fun S => by
    rw [cf27]
    refine wRun ?_
    unfold b27
    walk_at "evr"
    refine ⟨by show 1 ≤ LINE; decide, ?_⟩
    walk_at "evr"
    refine .mk (mulL (k := 0) lastS (by omega) (by omega) (by simp)) ?_
    refine ⟨_, _, rfl, by simp only [List.append_assoc]; rfl, ?_, lastS⟩
    simp only [List.length_append]
    omega
  | .fn m b, e + 1, hd, h10 => fun S => by
    have hb : b.dep < e := by have : b.dep + 1 < e + 1 := hd; omega
    have hs : b.dep ≤ 10 := by have : b.dep + 1 ≤ 10 := h10; omega
    have hl := b.all_len
    have hz := Tm.size_le hs
    rw [cf27]
    refine wRun ?_
    unfold b27
    walk_at "evr"
    refine wLcL (xs := nv ([m] ++ b.all)) (p := fun _ => true) (f := one2) ?_
    walk_at "evr"
    refine ⟨by show 1 ≤ LINE; decide, ?_⟩
    walk_at "evr"
    refine (lall_s b e hb hs).use fun l J h1 h2 => ?_
    refine .mk (addL (grown lastS) h2 (by rw [List.length_map]; exact small (by show 1 + _ ≤ 100000; omega))) ?_
    refine ⟨_, rfl, by rw [lastS]; simp [nv], by rw [List.length_map, List.length_append]; show 1 + _ ≤ 1000000; omega, fun x hx S' => rfl, fun x hx S' => rfl, ?_⟩
    rw [map_yes]
    walk_at "ev"
    refine .mk (dicL lastS) ?_
    walk_at "ev"
    refine .mk (lstD lastS) ?_
    refine ⟨_, _, rfl, by simp only [List.append_assoc]; rfl, ?_, lastS⟩
    simp only [List.length_append]
    omega
  | .ap a b, e + 1, hd, h10 => fun S => by
    have hb : max a.dep b.dep < e := by have : max a.dep b.dep + 1 < e + 1 := hd; omega
    have hs : max a.dep b.dep ≤ 10 := by have : max a.dep b.dep + 1 ≤ 10 := h10; omega
    have hl1 := a.all_len
    have hz1 := Tm.size_le (t := a) (by omega)
    have hl2 := b.all_len
    have hz2 := Tm.size_le (t := b) (by omega)
    rw [cf27]
    refine wRun ?_
    unfold b27
    walk_at "evr"
    refine wLcL (xs := nv (a.all ++ b.all)) (p := fun _ => true) (f := one2) ?_
    walk_at "evr"
    refine (lall_s a e (by omega) (by omega)).use fun l J h1 h2 => ?_
    walk_at "evr"
    refine (lall_s b e (by omega) (by omega)).use fun l2 J2 h3 h4 => ?_
    refine .mk (addL (grown h2) h4 (by rw [List.length_map, List.length_map]; exact small (by omega))) ?_
    refine ⟨_, rfl, by rw [lastS]; simp [nv], by rw [List.length_map, List.length_append]; omega, fun x hx S' => rfl, fun x hx S' => rfl, ?_⟩
    rw [map_yes]
    walk_at "ev"
    refine .mk (dicL lastS) ?_
    walk_at "ev"
    refine .mk (lstD lastS) ?_
    refine ⟨_, _, rfl, by simp only [List.append_assoc]; rfl, ?_, lastS⟩
    simp only [List.length_append]
    omega
/-! the tree -/
def Tm.lines : Tm → List Wd
  | .nm n => [n.s]
  | .num k => [numS k]
  | .fn m b => ([33] ++ m.s) :: b.lines.map ([32, 32] ++ ·)
  | .ap a b => [64] :: (a.lines ++ b.lines).map ([32, 32] ++ ·)
theorem Tm.lines_len : ∀ t : Tm, t.lines.length = t.size
  | .nm _ => rfl
  | .num _ => rfl
  | .fn m b => by simp only [Tm.lines, Tm.size, List.length_cons, List.length_map, b.lines_len]; omega
  | .ap a b => by simp only [Tm.lines, Tm.size, List.length_cons, List.length_map, List.length_append, a.lines_len, b.lines_len]; omega
theorem Tm.line_len : ∀ (t : Tm), ∀ s ∈ t.lines, s.length ≤ 2 * t.dep + 3
  | .nm n => by
    intro s hs
    rw [List.mem_singleton.mp hs]
    have := n.len
    omega
  | .num k => by
    intro s hs
    rw [List.mem_singleton.mp hs]
    show 1 ≤ _
    omega
  | .fn m b => by
    intro s hs
    have := m.len
    show _ ≤ 2 * (b.dep + 1) + 3
    rcases List.mem_cons.mp hs with rfl | hs
    · simp only [List.length_append, List.length_cons, List.length_nil]; omega
    · obtain ⟨u, hu, rfl⟩ := List.mem_map.mp hs
      have := b.line_len u hu
      simp only [List.length_append, List.length_cons, List.length_nil]; omega
  | .ap a b => by
    intro s hs
    show _ ≤ 2 * (max a.dep b.dep + 1) + 3
    rcases List.mem_cons.mp hs with rfl | hs
    · simp only [List.length_cons, List.length_nil]; omega
    · obtain ⟨u, hu, rfl⟩ := List.mem_map.mp hs
      rcases List.mem_append.mp hu with hu | hu
      · have := a.line_len u hu
        simp only [List.length_append, List.length_cons, List.length_nil]; omega
      · have := b.line_len u hu
        simp only [List.length_append, List.length_cons, List.length_nil]; omega
theorem strs_sv : ∀ ws : List Wd, strsOf (sv ws) = some ws
  | [] => rfl
  | w :: r => by
    show (match strsOf (sv r) with
      | some l => some (w :: l)
      | none => none) = _
    rw [strs_sv r]
theorem fmt_nm (n : Nm) (S : Store) : fmtP (.str n.s) S = some (.str n.s, S) := if_pos (small (by have := n.len; omega))
theorem tree_s : ∀ (t : Tm) (d : Nat), t.dep < d → t.dep ≤ 10 → Pure (callF d) 18 [t.pv] (.tup (sv t.lines))
  | t, 0, h, _ => absurd h (Nat.not_lt_zero _)
  | .nm n, e + 1, hd, _ => .of (cf18 e _) fun S => by
    refine wRun ?_
    unfold b18
    walk_at "evr"
    refine .mk (fmt_nm n S) ?_
    walk_at "evr"
    refine ⟨by show 1 ≤ LINE; decide, rfl, rfl⟩
  | .num k, e + 1, hd, _ => .of (cf18 e _) fun S => by
    refine wRun ?_
    unfold b18
    walk_at "evr"
    refine .mk (fmt_num k S) ?_
    walk_at "evr"
    refine ⟨by show 1 ≤ LINE; decide, rfl, rfl⟩
  | .fn m b, e + 1, hd, h10 => .of (cf18 e _) fun S => by
    have hb : b.dep < e := by have : b.dep + 1 < e + 1 := hd; omega
    have hs : b.dep ≤ 10 := by have : b.dep + 1 ≤ 10 := h10; omega
    have hz := Tm.size_le hs
    have hm := m.len
    have hn := b.lines_len
    refine wRun ?_
    unfold b18
    walk_at "evr"
    refine .mk (addS (by walk_at "len")) ?_
    walk_at "evr"
    refine ⟨by show 1 ≤ LINE; decide, ?_⟩
    refine wTupS ?_
    walk_at "evr"
    refine (tree_s b e hb hs).use ?_
    refine ⟨b.lines, strs_sv _, fun s hs => small (by have := b.line_len s hs; show 2 + _ ≤ _; omega), small (by omega), ?_⟩
    refine .mk (addT (by rw [List.length_map]; exact small (by show 1 + _ ≤ 100000; omega))) ?_
    refine ⟨?_, rfl⟩
    simp [Tm.lines, sv]
  | .ap a b, e + 1, hd, h10 => .of (cf18 e _) fun S => by
    have hb : max a.dep b.dep < e := by have : max a.dep b.dep + 1 < e + 1 := hd; omega
    have hs : max a.dep b.dep ≤ 10 := by have : max a.dep b.dep + 1 ≤ 10 := h10; omega
    have hz1 := Tm.size_le (t := a) (by omega)
    have hz2 := Tm.size_le (t := b) (by omega)
    have hn1 := a.lines_len
    have hn2 := b.lines_len
    refine wRun ?_
    unfold b18
    walk_at "evr"
    refine ⟨by show 1 ≤ LINE; decide, ?_⟩
    refine wTupS ?_
    walk_at "evr"
    refine (tree_s a e (by omega) (by omega)).use ?_
    walk_at "evr"
    refine (tree_s b e (by omega) (by omega)).use ?_
    refine .mk (addT (by rw [List.length_map, List.length_map]; exact small (by omega))) ?_
    refine ⟨a.lines ++ b.lines, by rw [← List.map_append]; exact strs_sv _, fun s hs => small ?_, small (by rw [List.length_append]; omega), ?_⟩
    · rcases List.mem_append.mp hs with hs | hs
      · have := a.line_len s hs; show 2 + _ ≤ _; omega
      · have := b.line_len s hs; show 2 + _ ≤ _; omega
    refine .mk (addT (by rw [List.length_map, List.length_append]; exact small (by show 1 + _ ≤ 100000; omega))) ?_
    refine ⟨?_, rfl⟩
    simp [Tm.lines, sv, Function.comp_def]
/-- a text with two blanks ahead -/
def ind (v : PV) : PV := match v with
  | .str s => .str ([32, 32] ++ s)
  | v => v
theorem map_ind (ws : List Wd) : ((sv ws).filter fun _ => true).map ind = sv (ws.map ([32, 32] ++ ·)) := by
  rw [filter_yes]
  simp [sv, ind]
theorem ltree_s : ∀ (t : Tm) (d : Nat), t.dep < d → t.dep ≤ 10 → NewL (callF d) 30 [t.pv] (sv t.lines)
  | t, 0, h, _ => absurd h (Nat.not_lt_zero _)
  | .nm n, e + 1, hd, _ => fun S => by
    rw [cf30]
    refine wRun ?_
    unfold b30
    walk_at "evr"
    refine ⟨by show 1 ≤ LINE; decide, _, [.lst (sv [n.s])], rfl, rfl, Nat.le_refl _, lastS⟩
  | .num k, e + 1, hd, _ => fun S => by
    rw [cf30]
    refine wRun ?_
    unfold b30
    walk_at "evr"
    refine .mk (str_num k S) ?_
    walk_at "evr"
    refine ⟨by show 1 ≤ LINE; decide, _, [.lst (sv [numS k])], rfl, rfl, Nat.le_refl _, lastS⟩
  | .fn m b, e + 1, hd, h10 => fun S => by
    have hb : b.dep < e := by have : b.dep + 1 < e + 1 := hd; omega
    have hs : b.dep ≤ 10 := by have : b.dep + 1 ≤ 10 := h10; omega
    have hz := Tm.size_le hs
    have hm := m.len
    have hn := b.lines_len
    rw [cf30]
    refine wRun ?_
    unfold b30
    walk_at "evr"
    refine (ltree_s b e hb hs).use fun l J h1 h2 => ?_
    walk_at "evr"
    refine .mk (addS (by walk_at "len")) ?_
    walk_at "evr"
    refine ⟨by show 1 ≤ LINE; decide, ?_⟩
    refine wLcL (xs := sv b.lines) (p := fun _ => true) (f := ind) ?_
    walk_at "ev"
    refine ⟨_, rfl, grown h2, by rw [List.length_map]; omega, fun x hx S' => rfl, fun x hx S' => ?_, ?_⟩
    · obtain ⟨s, hs, rfl⟩ := List.mem_map.mp hx
      have hq := b.line_len s hs
      show R.ofO (addP (.str [32, 32]) (.str s) S') = _
      rw [addS (by show 2 + _ ≤ _; omega)]
      rfl
    · rw [map_ind]
      refine .mk (addL (grown lastS) lastS (by rw [List.length_map, List.length_map]; exact small (by show 1 + _ ≤ 100000; omega))) ?_
      refine ⟨_, _, rfl, by simp only [List.append_assoc]; rfl, ?_, lastS⟩
      simp only [List.length_append]
      omega
  | .ap a b, e + 1, hd, h10 => fun S => by
    have hb : max a.dep b.dep < e := by have : max a.dep b.dep + 1 < e + 1 := hd; omega
    have hs : max a.dep b.dep ≤ 10 := by have : max a.dep b.dep + 1 ≤ 10 := h10; omega
    have hz1 := Tm.size_le (t := a) (by omega)
    have hz2 := Tm.size_le (t := b) (by omega)
    have hn1 := a.lines_len
    have hn2 := b.lines_len
    rw [cf30]
    refine wRun ?_
    unfold b30
    walk_at "evr"
    refine (ltree_s a e (by omega) (by omega)).use fun l J h1 h2 => ?_
    walk_at "evr"
    refine (ltree_s b e (by omega) (by omega)).use fun l2 J2 h3 h4 => ?_
    refine .mk (addL (grown h2) h4 (by rw [List.length_map, List.length_map]; exact small (by omega))) ?_
    walk_at "evr"
    refine ⟨by show 1 ≤ LINE; decide, ?_⟩
    refine wLcL (xs := sv (a.lines ++ b.lines)) (p := fun _ => true) (f := ind) ?_
    walk_at "ev"
    refine ⟨_, rfl, by rw [grown lastS]; simp [sv], by rw [List.length_map, List.length_append]; omega, fun x hx S' => rfl, fun x hx S' => ?_, ?_⟩
    · obtain ⟨s, hs, rfl⟩ := List.mem_map.mp hx
      show R.ofO (addP (.str [32, 32]) (.str s) S') = _
      rw [addS (by
        rcases List.mem_append.mp hs with hs | hs
        · have := a.line_len s hs; show 2 + _ ≤ _; omega
        · have := b.line_len s hs; show 2 + _ ≤ _; omega)]
      rfl
    · rw [map_ind]
      refine .mk (addL (grown lastS) lastS (by rw [List.length_map, List.length_map, List.length_append]; exact small (by show 1 + _ ≤ 100000; omega))) ?_
      refine ⟨_, _, rfl, by simp only [List.append_assoc]; rfl, ?_, lastS⟩
      simp only [List.length_append]
      omega

/-! rows of what is put at something -/
def Tm.hd : Tm → Tm
  | .ap a _ => a.hd
  | t => t
def Tm.args : Tm → List Tm
  | .ap a b => a.args ++ [b]
  | _ => []
theorem Tm.args_len : ∀ t : Tm, t.args.length ≤ t.dep
  | .nm _ => Nat.le_refl _
  | .num _ => Nat.le_refl _
  | .fn _ _ => Nat.zero_le _
  | .ap a b => by
    have := a.args_len
    show (a.args ++ [b]).length ≤ max a.dep b.dep + 1
    rw [List.length_append, List.length_singleton]
    omega
theorem Tm.hd_dep : ∀ t : Tm, t.hd.dep ≤ t.dep
  | .nm _ => Nat.le_refl _
  | .num _ => Nat.le_refl _
  | .fn _ _ => Nat.le_refl _
  | .ap a b => by
    have := a.hd_dep
    show a.hd.dep ≤ max a.dep b.dep + 1
    omega
theorem Tm.args_dep : ∀ t : Tm, ∀ u ∈ t.args, u.dep ≤ t.dep
  | .nm _, u, hu => nomatch hu
  | .num _, u, hu => nomatch hu
  | .fn _ _, u, hu => nomatch hu
  | .ap a b, u, hu => by
    show u.dep ≤ max a.dep b.dep + 1
    rcases List.mem_append.mp hu with hu | hu
    · have := a.args_dep u hu; omega
    · rw [List.mem_singleton.mp hu]; omega
def apP (h x : PV) : PV := .tup [.str [97, 116], h, x]
theorem Tm.args_fold : ∀ t : Tm, (t.args.map Tm.pv).foldl apP t.hd.pv = t.pv
  | .nm _ => rfl
  | .num _ => rfl
  | .fn _ _ => rfl
  | .ap a b => by
    show ((a.args ++ [b]).map Tm.pv).foldl apP a.hd.pv = _
    rw [List.map_append, List.foldl_append, a.args_fold]
    rfl
def rowL (n : Nat) : SF := whL (bAnd (bTru (eIs ["tuple"] (eVar 0))) (bCmp eqP (eBin ixP (eVar 0) (eC (.int 0))) (eC (.str [97, 116])))) (sSeq (sExpr (eAppd (eVar 1) (eCons (eBin ixP (eVar 0) (eC (.int 2))) eNil))) (sSeq (sAsg (eBin ixP (eVar 0) (eC (.int 1))) (tgN 0)) sNil)) n
theorem row_l : ∀ (t : Tm) (n : Nat) (S : Store) (l : Nat) (acc : List PV) (Q : Fl → Store → Prop), t.dep < n → S[l]? = some (.lst acc) → acc.length + t.dep ≤ 1000 →
    (∀ S', S' = S.set l (.lst (acc ++ (t.args.map Tm.pv).reverse)) → Q (.nx [some t.hd.pv, some (.loc l)]) S') → WS (rowL n [some t.pv, some (.loc l)] S) Q
  | t, 0, S, l, acc, Q, h, _, _, _ => absurd h (Nat.not_lt_zero _)
  | .nm m, n + 1, S, l, acc, Q, h, hS, hl, q => by
    refine wwhile ?_
    walk_at "evr"
    exact q S (by simp only [Tm.args, List.map_nil, List.reverse_nil, List.append_nil]; exact (set_same hS).symm)
  | .num m, n + 1, S, l, acc, Q, h, hS, hl, q => by
    refine wwhile ?_
    walk_at "evr"
    exact q S (by simp only [Tm.args, List.map_nil, List.reverse_nil, List.append_nil]; exact (set_same hS).symm)
  | .fn m b, n + 1, S, l, acc, Q, h, hS, hl, q => by
    refine wwhile ?_
    walk_at "evr"
    exact q S (by simp only [Tm.args, List.map_nil, List.reverse_nil, List.append_nil]; exact (set_same hS).symm)
  | .ap a b, n + 1, S, l, acc, Q, h, hS, hl, q => by
    have h : max a.dep b.dep + 1 < n + 1 := h
    have hl : acc.length + (max a.dep b.dep + 1) ≤ 1000 := hl
    refine wwhile ?_
    refine wbAnd ?_
    walk_at "evr"
    refine ⟨by unfold tyP; simp only [hS], ?_⟩
    walk_at "ev"
    refine .mk rfl ?_
    walk_at "ev"
    refine ⟨l, b.pv, acc, rfl, rfl, hS, small (by omega), ?_⟩
    walk_at "ev"
    refine row_l a n _ l (acc ++ [b.pv]) Q (by omega) (get_set hS) (by rw [List.length_append]; show acc.length + 1 + a.dep ≤ 1000; omega) fun S' e => ?_
    refine q S' ?_
    rw [e, setS]
    simp [Tm.args]
theorem row_s (t : Tm) (d : Nat) (h : t.dep ≤ 100) : PureJ (callF (d + 1)) 13 [t.pv] (.tup [t.hd.pv, .tup (t.args.map Tm.pv)]) := .of (cf13 d _) fun S => by
  refine wRun ?_
  show WS ((sSeq (sAsg (eLst eNil) (tgN 1)) (sSeq (rowL 100000) (sSeq (sRet (eTup (eCons (eVar 0) (eCons (eCl tupP2 (eCons (eUn revP (eVar 1)) eNil)) eNil)))) sNil))) [some t.pv, none] S) _
  walk_at "ev"
  try refine ⟨by show 0 ≤ LINE; decide, ?_⟩
  refine row_l t 100000 _ S.length [] _ (by omega) lastS (by simp; omega) fun S' e => ?_
  have g : S'[S.length]? = some (.lst (t.args.map Tm.pv).reverse) := by rw [e]; exact get_set lastS
  have eJ : S' = S ++ [.lst (t.args.map Tm.pv).reverse] := by rw [e, set_last]; rfl
  walk_at "ev"
  refine .mk (revL g) ?_
  walk_at "ev"
  refine .mk (z := .tup (t.args.map Tm.pv)) (S' := S' ++ [.lst (t.args.map Tm.pv)]) ?_ ?_
  · unfold tupP2
    simp only [lastS]
    simp
  · walk_at "ev"
    refine ⟨by show 2 ≤ LINE; decide, rfl, _, by rw [eJ]; simp only [List.append_assoc]; rfl⟩
def putB : SF := (sSeq (sAsg (eTup (eCons (eC (.str [97, 116])) (eCons (eVar 0) (eCons (eVar 2) eNil)))) (tgN 0)) sNil)
theorem put_loop {src : Src} {xs : List PV} {S : Store} {x1 : Option PV} {Q : Fl → Store → Prop} (hn : ∀ i, nth src i S = some xs[i]?) : ∀ (r pre : List PV) (h : PV) (n : Nat) (y : Option PV), xs = pre ++ r → r.length < n → (∀ y, Q (.nx [some (r.foldl apP h), x1, y]) S) → WS (forL src (tgN 2) putB n pre.length [some h, x1, y] S) Q
  | r, pre, h, 0, y, _, hl, _ => absurd hl (Nat.not_lt_zero _)
  | [], pre, h, n + 1, y, e, hl, q => by
    refine wforEnd ?_ (q _)
    rw [hn, e, List.append_nil, List.getElem?_eq_none (Nat.le_refl _)]
  | x :: r, pre, h, n + 1, y, e, hl, q => by
    have hl : r.length + 1 < n + 1 := hl
    refine wforGo (v := x) (by rw [hn, e]; simp) rfl ?_
    unfold putB
    walk_at "ev"
    try refine ⟨by show 3 ≤ LINE; decide, ?_⟩
    have := put_loop hn r (pre ++ [x]) (apP h x) n (some x) (by rw [e]; simp) (by omega) q
    rw [List.length_append] at this
    exact this
theorem put_sL {d l : Nat} {h : PV} {xs : List PV} {S : Store} (hs : S[l]? = some (.lst xs)) : WE (callF (d + 1) 14 [h, .loc l] S) fun w S' => w = xs.foldl apP h ∧ S' = S := by
  rw [cf14]
  refine wRun ?_
  show WS ((sSeq (sFor (iOf (eVar 1)) (tgN 2) putB) (sSeq (sRet (eVar 0)) sNil)) [some h, some (.loc l), none] S) _
  refine wsSeq (wsFor (wOf ?_))
  walk_at "ev"
  refine ⟨_, srcL hs, ?_⟩
  refine put_loop (fun i => nthL hs) xs [] h _ none rfl (by rw [fuelL hs]; omega) fun y => ?_
  walk_at "ev"
  exact ⟨rfl, rfl⟩
theorem put_sT {d : Nat} {h : PV} {xs : List PV} : Pure (callF (d + 1)) 14 [h, .tup xs] (xs.foldl apP h) := .of (cf14 d _) fun S => by
  refine wRun ?_
  show WS ((sSeq (sFor (iOf (eVar 1)) (tgN 2) putB) (sSeq (sRet (eVar 0)) sNil)) [some h, some (.tup xs), none] S) _
  refine wsSeq (wsFor (wOf ?_))
  walk_at "ev"
  refine ⟨_, rfl, ?_⟩
  refine put_loop (fun i => rfl) xs [] h _ none rfl (by show _ < xs.length + 1; omega) fun y => ?_
  walk_at "ev"
  exact ⟨rfl, rfl⟩
def fnP (n b : PV) : PV := .tup [.str [102, 117, 110], n, b]
def funB : SF := (sSeq (sAsg (eTup (eCons (eC (.str [102, 117, 110])) (eCons (eVar 2) (eCons (eVar 1) eNil)))) (tgN 1)) sNil)
theorem fun_loop {xs : List PV} {S : Store} {x0 : Option PV} {Q : Fl → Store → Prop} : ∀ (r pre : List PV) (b : PV) (n : Nat) (y : Option PV), xs = pre ++ r → r.length < n → (∀ y, Q (.nx [x0, some (r.foldl (fun b n => fnP n b) b), y]) S) → WS (forL (.seq xs) (tgN 2) funB n pre.length [x0, some b, y] S) Q
  | r, pre, h, 0, y, _, hl, _ => absurd hl (Nat.not_lt_zero _)
  | [], pre, h, n + 1, y, e, hl, q => by
    refine wforEnd ?_ (q _)
    show some xs[pre.length]? = _
    rw [e, List.append_nil, List.getElem?_eq_none (Nat.le_refl _)]
  | x :: r, pre, b, n + 1, y, e, hl, q => by
    have hl : r.length + 1 < n + 1 := hl
    refine wforGo (v := x) (by show some xs[pre.length]? = _; rw [e]; simp) rfl ?_
    unfold funB
    walk_at "ev"
    try refine ⟨by show 3 ≤ LINE; decide, ?_⟩
    have := fun_loop (xs := xs) (S := S) (x0 := x0) (Q := Q) r (pre ++ [x]) (fnP x b) n (some x) (by rw [e]; simp) (by omega) q
    rw [List.length_append] at this
    exact this
theorem funs_s {d : Nat} {b : PV} {xs : List PV} : Pure (callF (d + 1)) 15 [.tup xs, b] (xs.reverse.foldl (fun b n => fnP n b) b) := .of (cf15 d _) fun S => by
  refine wRun ?_
  show WS ((sSeq (sFor (iOf (eUn revP (eVar 0))) (tgN 2) funB) (sSeq (sRet (eVar 1)) sNil)) [some (.tup xs), some b, none] S) _
  refine wsSeq (wsFor (wOf ?_))
  walk_at "ev"
  refine .mk rfl ?_
  refine ⟨_, rfl, ?_⟩
  refine fun_loop xs.reverse [] b _ none rfl (by show _ < xs.reverse.length + 1; omega) fun y => ?_
  walk_at "ev"
  exact ⟨rfl, rfl⟩
theorem datL_nv (ns : List Nm) : DatL 0 (nv ns) := .of fun x hx => by
  obtain ⟨n, rfl⟩ := nv_mem hx
  exact .str _ n.ok
theorem closed_s (t : Tm) (d : Nat) (h : t.dep < d) (h10 : t.dep ≤ 10) : PureJ (callF (d + 1)) 17 [t.pv] (.bl (nv t.free).isEmpty) := .of (cf17 d _) fun S => by
  refine wRun ?_
  unfold b17
  walk_at "ev"
  refine ⟨rfl, ?_⟩
  refine (free_s t d h h10).use fun J => ?_
  walk_at "ev"
  try refine ⟨by show 0 ≤ LINE; decide, ?_⟩
  refine .mk (eqTupNil (datL_nv t.free) (by omega) _) ?_
  exact ⟨rfl, J, rfl⟩
theorem told_term_s (t : Tm) (d : Nat) (h : t.dep < d) (h10 : t.dep ≤ 10) : PureJ (callF (d + 1)) 7 [t.pv] (.str (t.text .all)) := .of (cf7 d _) fun S => by
  refine wRun ?_
  unfold b7
  walk_at "ev"
  refine ⟨rfl, ?_⟩
  refine (told_s t .all d h h10).use fun J => ?_
  exact ⟨rfl, J, rfl⟩
/-! the words joined by blanks -/
def Good (w : Wd) : Prop := (w ≠ [] ∧ ∀ c ∈ w, c ∈ sgs) ∨ ∃ c ∈ pcs, w = [c]
theorem lexS_good : ∀ (s : List Nat) (w : Wd), (∀ c ∈ w, c ∈ sgs) → ∀ u ∈ lexS s w, Good u
  | [], w, _, u, hu => nomatch hu
  | c :: r, w, h, u, hu => by
    rw [lexS] at hu
    by_cases hc : c ∈ sgs
    · rw [if_pos hc] at hu
      refine lexS_good r (w ++ [c]) (fun d hd => ?_) u hu
      rcases List.mem_append.mp hd with hd | hd
      · exact h d hd
      · rw [List.mem_singleton.mp hd]; exact hc
    · rw [if_neg hc] at hu
      rcases List.mem_append.mp hu with hu | hu
      · rcases List.mem_append.mp hu with hu | hu
        · unfold flush at hu
          split at hu
          · cases hu
          · rename_i hn
            rw [List.mem_singleton.mp hu]
            exact .inl ⟨hn, h⟩
        · unfold punc at hu
          split at hu
          · rename_i hp
            rw [List.mem_singleton.mp hu]
            exact .inr ⟨c, hp, rfl⟩
          · cases hu
      · exact lexS_good r [] (fun _ h => nomatch h) u hu
theorem good_lex {w : Wd} (h : Good w) (x : List Nat) : lexS (w ++ 32 :: x) [] = w :: lexS x [] := by
  rcases h with ⟨hn, hs⟩ | ⟨c, hc, rfl⟩
  · rw [lexTo_word hn hs 32 x no32, lexW (.inl rfl)]; rfl
  · show lexS (c :: 32 :: x) [] = _
    rw [lexP hc, lexW (.inl rfl)]
theorem join_lex : ∀ (ws : List Wd), (∀ w ∈ ws, Good w) → lexS (TL.joinL [32] ws ++ [32]) [] = ws
  | [], _ => by
    show lexS [32] [] = []
    rw [lexW (.inl rfl)]
    rfl
  | [w], h => by
    show lexS (w ++ 32 :: []) [] = _
    rw [good_lex (h w (by simp))]
    rfl
  | w :: v :: r, h => by
    have e : TL.joinL [32] (w :: v :: r) ++ [32] = w ++ 32 :: (TL.joinL [32] (v :: r) ++ [32]) := by simp [TL.joinL]
    rw [e, good_lex (h w (by simp)), join_lex (v :: r) fun u hu => h u (by simp at hu ⊢; exact .inr hu)]
theorem good_ok {w : Wd} (h : Good w) : ∀ c ∈ w, okC c := by
  rcases h with ⟨_, hs⟩ | ⟨c, hc, rfl⟩
  · exact fun c hc => .inl (hs c hc)
  · intro d hd
    rw [List.mem_singleton.mp hd]; exact .inr (.inl hc)
theorem join_ok : ∀ (ws : List Wd), (∀ w ∈ ws, Good w) → ∀ c ∈ TL.joinL [32] ws, okC c
  | [], _, c, hc => nomatch hc
  | [w], h, c, hc => good_ok (h w (by simp)) c hc
  | w :: v :: r, h, c, hc => by
    have e : TL.joinL [32] (w :: v :: r) = w ++ ([32] ++ TL.joinL [32] (v :: r)) := rfl
    rw [e] at hc
    rcases List.mem_append.mp hc with hc | hc
    · exact good_ok (h w (by simp)) c hc
    · rcases List.mem_append.mp hc with hc | hc
      · rw [List.mem_singleton.mp hc]; exact .inr (.inr (by simp))
      · exact join_ok (v :: r) (fun u hu => h u (by simp at hu ⊢; exact .inr hu)) c hc
theorem join_len : ∀ (ws : List Wd), (TL.joinL [32] ws).length ≤ (ws.map List.length).sum + ws.length
  | [] => Nat.zero_le _
  | [w] => by simp [TL.joinL]
  | w :: v :: r => by
    have := join_len (v :: r)
    have e : TL.joinL [32] (w :: v :: r) = w ++ ([32] ++ TL.joinL [32] (v :: r)) := rfl
    rw [e]
    simp only [List.length_append, List.length_cons, List.map_cons, List.sum_cons, List.length_nil] at this ⊢
    omega
theorem lexS_sum : ∀ (s : List Nat) (w : Wd), ((lexS s w).map List.length).sum ≤ w.length + s.length
  | [], w => Nat.zero_le _
  | c :: r, w => by
    rw [lexS]
    have h1 := lexS_sum r (w ++ [c])
    have h2 := lexS_sum r []
    have f1 : ((flush w).map List.length).sum ≤ w.length := by unfold flush; split <;> simp
    have f2 : ((punc c).map List.length).sum ≤ 1 := by unfold punc; split <;> simp
    rw [List.length_cons]
    split
    · rw [List.length_append, List.length_singleton] at h1; omega
    · rw [List.map_append, List.map_append, List.sum_append, List.sum_append]
      simp only [List.length_nil] at h2
      omega
theorem joinT {ws : List Wd} {S : Store} (h : (ws.map List.length).sum + ws.length ≤ 100000) : joinP (.str [32]) (.tup (sv ws)) S = some (.str (TL.joinL [32] ws), S) := by
  have e : seqOf S (.tup (sv ws)) = some (sv ws) := rfl
  unfold joinP
  simp only [e, strs_sv]
  rw [if_pos (small (by simp only [List.length_cons, List.length_nil]; omega))]

theorem pow18 (S : Store) : powP (.int 10) (.int 18) S = some (.int (10 ^ 18), S) := by
  show (if (0 : Int) ≤ 18 ∧ (18 : Int) ≤ 1000000 ∧ (10 : Int).natAbs < 2 ^ 64 then some (PV.int (10 ^ (18 : Int).toNat), S) else none) = _
  rw [if_pos (by decide)]
  rfl
theorem dice_s (d : Nat) (i : Int) (S : Store) : WE (callF (d + 1) 19 [.int i] S) fun v S' => ∃ a b f : Int, v = .loc S.length ∧ S' = S ++ [.lst [.int a, .int b, .int f]] := by
  rw [cf19]
  refine wRun ?_
  unfold b19
  refine wsSeq (wsIf (wChn ?_))
  have T : ∀ S : Store, WS ((sSeq (sRet (eLst (eCons (eVar 0) (eCons (eBin addP (eC (.int 1)) (eBin modP (eCl intP (eCons (eVar 0) eNil)) (eC (.int 1009)))) (eCons (eCl intP (eCons (eBin geP (eVar 0) (eBin powP (eC (.int 10)) (eC (.int 18)))) eNil)) eNil))))) sNil) [some (PV.int i)] S) (fin fun v S' => ∃ a b f : Int, v = .loc S.length ∧ S' = S ++ [.lst [.int a, .int b, .int f]]) := by
    intro S
    walk_at "ev"
    refine .mk rfl ?_
    walk_at "ev"
    refine .mk (modI (by decide)) ?_
    walk_at "ev"
    refine .mk rfl ?_
    walk_at "ev"
    refine .mk (pow18 S) ?_
    refine .mk rfl ?_
    walk_at "ev"
    refine .mk rfl ?_
    walk_at "ev"
    refine ⟨by show 3 ≤ LINE; decide, _, _, _, rfl, rfl⟩
  walk_at "ev"
  refine .mk rfl ?_
  walk_at "ev"
  refine ⟨_, _, ltI .., ?_⟩
  by_cases h1 : (0 : Int) - 10 < i
  · refine itT (decide_eq_true h1) ?_
    walk_at "ev"
    refine ⟨_, _, ltI .., ?_⟩
    by_cases h2 : i < 10
    · refine itT (decide_eq_true h2) ?_
      walk_at "ev"
      refine .mk rfl ?_
      walk_at "ev"
      refine ⟨by show 3 ≤ LINE; decide, _, _, _, rfl, rfl⟩
    · refine itF (decide_eq_false h2) ?_
      exact wsNil (T S)
  · refine itF (decide_eq_false h1) ?_
    exact itF rfl (wsNil (T S))
theorem cut1 (xs : List PV) : cutL xs none (some 1) = xs.take 1 := by
  unfold cutL
  rw [HT.sIx_none, show (some (1 : Int)) = some ((1 : Nat) : Int) from rfl, HT.sIx_nat]
  cases xs with
  | nil => rfl
  | cons x xs => simp
theorem sl1 {S : Store} {l : Nat} {xs : List PV} (h : S[l]? = some (.lst xs) ∨ S[l]? = some (.rol xs)) : slP (.loc l) none (some 1) S = some (.loc S.length, S ++ [.lst (xs.take 1)]) := by
  unfold slP
  rcases h with h | h
  · simp only [h, cut1]
  · simp only [h, cut1]
theorem rounds_s (d : Nat) (ns : List Int) (S : Store) (l : Nat) (h : S[l]? = some (.lst (ns.map PV.int)) ∨ S[l]? = some (.rol (ns.map PV.int))) : WE (callF (d + 2) 21 [.loc l, .int 1] S) fun v S' => ∃ k p a b f, v = .loc k ∧ k ≠ p ∧ S'[k]? = some (.lst [.loc p]) ∧ S'[p]? = some (.lst [.int a, .int b, .int f]) := by
  rw [cf21]
  refine wRun ?_
  unfold b21
  have T : ∀ (S : Store) (k : Nat) (i : Int), S[k]? = some (.lst [.int i]) → WS ((sSeq (sRet (eLc (iOf (eVar 2)) (tgN 3) bYes (eCall (callF (d + 1)) 19 1 [] (eCons (eVar 3) eNil)) [3])) sNil) [some (PV.loc l), some (PV.int 1), some (PV.loc k), none] S) (fin fun v S' => ∃ k p a b f, v = .loc k ∧ k ≠ p ∧ S'[k]? = some (.lst [.loc p]) ∧ S'[p]? = some (.lst [.int a, .int b, .int f])) := by
    intro S k i hk
    have hl : k < S.length := (List.getElem?_eq_some_iff.mp hk).1
    walk_at "ev"
    refine wLc (wOf ?_)
    walk_at "ev"
    refine ⟨_, srcL hk, ?_⟩
    rw [fuelL hk]
    refine wlcGo (v := .int i) (by rw [nthL (grown hk)]; rfl) rfl ?_
    refine ⟨true, _, rfl, ?_⟩
    refine itT rfl ?_
    walk_at "ev"
    refine ⟨rfl, ?_⟩
    refine (dice_s d i _).imp ?_
    rintro v S' ⟨a, b, f, rfl, rfl⟩
    refine ⟨[], grown lastS, by show 0 < 16777216; omega, ?_⟩
    refine wlcEnd ?_ ?_
    · have h4 : ((S ++ [SO.lst []] ++ [SO.lst [.int a, .int b, .int f]]).set S.length (.lst ([] ++ [.loc (S ++ [SO.lst []]).length])))[k]? = some (.lst [.int i]) := by
        rw [List.getElem?_set_ne (by omega)]
        exact grown (grown hk)
      rw [nthL h4]
      rfl
    · refine ⟨S.length, (S ++ [SO.lst []]).length, a, b, f, rfl, by simp, ?_, ?_⟩
      · rw [get_set (grown lastS)]
        rfl
      · rw [List.getElem?_set_ne (by simp)]
        exact lastS
  walk_at "ev"
  refine .mk (sl1 h) ?_
  walk_at "ev"
  try refine ⟨by show 0 ≤ LINE; decide, ?_⟩
  have hD : DatL 0 ((ns.map PV.int).take 1) := .of fun x hx => by
    obtain ⟨i, _, rfl⟩ := List.mem_map.mp (List.mem_of_mem_take hx)
    exact .int _ _
  refine ⟨_, _, eqLstNil hD (by omega) (grown lastS) lastS, ?_⟩
  cases ns with
  | nil =>
    refine itT rfl ?_
    refine wsSeq (wsSet (wLst (wCons (wC (wNil ⟨by show 1 ≤ LINE; decide, ?_⟩)))))
    exact wsNil (T _ _ 0 lastS)
  | cons i ns =>
    refine itF rfl ?_
    exact wsNil (T _ _ i (grown lastS))
/-! the drawn word -/
def abc : List Nat := [97, 49, 95, 90]
def isnm : Wd → Bool
  | [] => false
  | c :: _ => decide (c ≠ 49)
theorem abc_sg : ∀ c ∈ abc, c ∈ sgs := by decide
theorem all_sg {w : Wd} (h : ∀ c ∈ w, c ∈ abc) : (w.all fun z => decide (z ∈ sgs)) = true := by
  rw [List.all_eq_true]
  exact fun c hc => decide_eq_true (abc_sg c (h c hc))
theorem okS_abc {w : Wd} (h : ∀ c ∈ w, c ∈ abc) : okS w = true := okS_of fun c hc => sgs_lt c (abc_sg c (h c hc))
theorem name_w (e : Nat) {w : Wd} (h : ∀ c ∈ w, c ∈ abc) (hl : w.length ≤ 3) : Pure (callF (e + 1)) 1 [.str w] (.bl (isnm w)) := .of (cf1 e _) fun S => by
  refine wRun ?_
  unfold b1
  refine wsSeq (wsRet (wAndV ?_))
  walk_at "ev"
  refine .mk (neStr (okS_abc h) rfl S) ?_
  refine ⟨_, rfl, ?_⟩
  cases w with
  | nil => exact itF rfl ⟨rfl, rfl⟩
  | cons c r =>
    refine itT rfl ?_
    refine wAndV ?_
    walk_at "ev"
    refine .mk (ix0 (small (by omega))) ?_
    walk_at "ev"
    refine .mk rfl ?_
    have hc : c = 97 ∨ c = 49 ∨ c = 95 ∨ c = 90 := by
      have := h c (by simp)
      unfold abc at this
      simpa using this
    have G : ∀ b : Bool, b = true → WE (eAllS (eVar 0) (fun z => decide (z ∈ sgs)) [some (.str (c :: r))] S) (fun v S1 => v = .bl b ∧ S1 = S) := fun b hb => by
      subst hb
      refine wAllS ?_
      walk_at "ev"
      exact ⟨_, rfl, by rw [all_sg h], rfl⟩
    rcases hc with rfl | rfl | rfl | rfl
    · exact ⟨_, rfl, itT rfl (G _ rfl)⟩
    · exact ⟨_, rfl, itF rfl ⟨rfl, rfl⟩⟩
    · exact ⟨_, rfl, itT rfl (G _ rfl)⟩
    · exact ⟨_, rfl, itT rfl (G _ rfl)⟩
theorem Grow.set {p l : Nat} {S S1 : Store} (g : Grow p S S1) (hl : S.length ≤ l) (hp : l ≠ p) (o : SO) : Grow p S (S1.set l o) := by
  obtain ⟨a, b, f, h⟩ := g.dice
  refine ⟨by rw [List.length_set]; exact g.len, fun k hk n => ?_, a, b, f, ?_⟩
  · rw [List.getElem?_set_ne (by omega)]; exact g.old k hk n
  · rw [List.getElem?_set_ne hp]; exact h
theorem Grow.ext {p : Nat} {S S1 S2 : Store} (g : Grow p S S1) (e : Ext S1 S2) : Grow p S S2 := by
  obtain ⟨J, rfl⟩ := e
  obtain ⟨a, b, f, h⟩ := g.dice
  have up : ∀ {l : Nat}, l < S1.length → (S1 ++ J)[l]? = S1[l]? := fun h => List.getElem?_append_left h
  refine ⟨by rw [List.length_append]; exact Nat.le_trans g.len (Nat.le_add_right _ _), fun l hl n => (up (Nat.lt_of_lt_of_le hl g.len)).trans (g.old l hl n), a, b, f, grown h⟩
theorem pick4 {r : Int} (h0 : 0 ≤ r) (h4 : r < 4) (S : Store) : ∃ c, ixP (.str abc) (.int r) S = some (.str [c], S) ∧ c ∈ abc := by
  have : r = 0 ∨ r = 1 ∨ r = 2 ∨ r = 3 := by omega
  rcases this with rfl | rfl | rfl | rfl
  · exact ⟨97, rfl, by decide⟩
  · exact ⟨49, rfl, by decide⟩
  · exact ⟨95, rfl, by decide⟩
  · exact ⟨90, rfl, by decide⟩
theorem word_loop {d : Nat} {S0 : Store} {p l n : Nat} {x0 x2 x3 x4 x5 x6 x7 x8 x9 : Option PV} {Q : PV → Store → Prop} (hl0 : S0.length ≤ l) (hp : l ≠ p) (hn : n < 4) :
    ∀ (m i : Nat) (S : Store) (acc : Wd) (fuel : Nat), i + m = n → m < fuel → Grow p S0 S → S[l]? = some (.lst (chs acc)) → (∀ c ∈ acc, c ∈ abc) → acc.length = i →
    (∀ S' w, Grow p S0 S' → S'[l]? = some (.lst (chs w)) → (∀ c ∈ w, c ∈ abc) → w.length ≤ 3 → Q (.loc l) S') →
    WE (lcL (.rng 0 n) (tgN 9) bYes (eBin ixP (eC (.str abc)) (eCall (callF (d + 1)) 20 2 [] (eCons (eVar 1) (eCons (eC (.int 4)) eNil)))) l [x0, some (.loc p), x2, x3, x4, x5, x6, x7, x8, x9] fuel i S) Q
  | m, i, S, acc, 0, _, h, _, _, _, _, _ => absurd h (Nat.not_lt_zero _)
  | 0, i, S, acc, fuel + 1, e, h, g, hS, ha, hl, q => by
    refine wlcEnd ?_ (q S acc g hS ha (by omega))
    show some (if i < n then some (PV.int (0 + i)) else none) = _
    rw [if_neg (by omega)]
  | m + 1, i, S, acc, fuel + 1, e, h, g, hS, ha, hl, q => by
    refine wlcGo (v := .int (0 + i)) ?_ rfl ?_
    · show some (if i < n then some (PV.int (0 + i)) else none) = _
      rw [if_pos (by omega)]
    · refine ⟨true, _, rfl, itT rfl ?_⟩
      walk_at "ev"
      refine ⟨rfl, (roll_c g.dice (by decide) (by decide)).imp ?_⟩
      rintro _ S1 ⟨r, r0, r4, rfl, g1⟩
      obtain ⟨c, ec, hc⟩ := pick4 r0 r4 S1
      refine .mk ec ?_
      have h1 : S1[l]? = some (.lst (chs acc)) := g1.get hp hS
      refine ⟨_, h1, by rw [List.length_map]; show _ < 16777216; omega, ?_⟩
      refine word_loop hl0 hp hn m (i + 1) _ (acc ++ [c]) fuel (by omega) (by omega) ((g.trans g1).set hl0 hp _) (by rw [get_set h1]; simp [chs]) (fun d hd => ?_) (by rw [List.length_append, hl]; rfl) q
      rcases List.mem_append.mp hd with hd | hd
      · exact ha d hd
      · rw [List.mem_singleton.mp hd]; exact hc
theorem strs_chs : ∀ w : Wd, strsOf (chs w) = some (w.map fun c => [c])
  | [] => rfl
  | c :: r => by
    show (match strsOf (chs r) with
      | some l => some ([c] :: l)
      | none => none) = _
    rw [strs_chs r]
    rfl
theorem join0 : ∀ w : Wd, TL.joinL [] (w.map fun c => [c]) = w
  | [] => rfl
  | [c] => rfl
  | c :: d :: r => by
    have := join0 (d :: r)
    show [c] ++ ([] ++ TL.joinL [] ((d :: r).map fun c => [c])) = _
    rw [this]
    rfl
theorem join_w {S : Store} {l : Nat} {w : Wd} (h : S[l]? = some (.lst (chs w))) (hl : w.length ≤ 3) : joinP (.str []) (.loc l) S = some (.str w, S) := by
  have e : seqOf S (.loc l) = some (chs w) := by
    unfold seqOf Ev.listAt
    simp only [h]
  have hs : ∀ w : Wd, ((w.map fun c => [c]).map List.length).sum = w.length := by
    intro w
    induction w with
    | nil => rfl
    | cons c r ih => simp only [List.map_cons, List.sum_cons, ih, List.length_cons, List.length_nil]; omega
  unfold joinP
  simp only [e, strs_chs]
  rw [if_pos (by rw [hs]; exact small (by simp; omega)), join0]

/-! the turn of the law in parts -/
def q1 (c : Oracle) : BF := (bOr (bCmp neP (eCall c 3 1 [] (eCons (eCall c 24 1 [] (eCons (eVar 2) eNil)) eNil)) (eVar 2)) (bOr (bCmp neP (eCall c 3 1 [] (eCons (eVar 3) eNil)) (eVar 2)) (bOr (bCmp notNP (eCall c 6 2 [(.int 0)] (eCons (eVar 2) eNil)) (eC .non)) (bCmp neP (eCl lstP (eCons (eCall c 0 1 [] (eCons (eCall c 24 1 [] (eCons (eVar 2) eNil)) eNil)) eNil)) (eCl lstP (eCons (eCall c 0 1 [] (eCons (eM1 joinP (eC (.str [32])) (eCall c 0 1 [] (eCons (eCall c 24 1 [] (eCons (eVar 2) eNil)) eNil))) eNil)) eNil))))))
def q2 (c : Oracle) : BF := (bOr (bCmp neP (eVar 3) (eCall c 25 2 [] (eCons (eVar 2) (eCons (eC (.str [97, 108, 108])) eNil)))) (bOr (bCmp neP (eCall c 8 2 [] (eCons (eVar 2) (eCons (eC (.str [102, 105, 114, 115, 116])) eNil))) (eCall c 25 2 [] (eCons (eVar 2) (eCons (eC (.str [102, 105, 114, 115, 116])) eNil)))) (bCmp neP (eCall c 8 2 [] (eCons (eVar 2) (eCons (eC (.str [108, 97, 115, 116])) eNil))) (eCall c 25 2 [] (eCons (eVar 2) (eCons (eC (.str [108, 97, 115, 116])) eNil))))))
def q3 (c : Oracle) : BF := (bOr (bCmp neP (eCl lstP (eCons (eCall c 9 1 [] (eCons (eVar 2) eNil)) eNil)) (eVar 4)) (bOr (bCmp neP (eCl lstP (eCons (eCall c 10 1 [] (eCons (eVar 2) eNil)) eNil)) (eCall c 27 1 [] (eCons (eVar 2) eNil))) (bOr (bCmp neP (eCl lstP (eCons (eCall c 16 1 [] (eCons (eVar 2) eNil)) eNil)) (eCall c 28 1 [] (eCons (eVar 2) eNil))) (bOr (bCmp neP (eCall c 11 1 [] (eCons (eVar 2) eNil)) (eCl lenP (eCons (eCall c 28 1 [] (eCons (eVar 2) eNil)) eNil))) (bCmp neP (eCall c 12 1 [] (eCons (eVar 2) eNil)) (eCall c 29 1 [] (eCons (eVar 2) eNil)))))))
def q4 (c : Oracle) : BF := (bOr (bCmp neP (eCall c 17 1 [] (eCons (eVar 2) eNil)) (eBin eqP (eVar 4) (eLst eNil))) (bCmp neP (eCl lstP (eCons (eCall c 18 1 [] (eCons (eVar 2) eNil)) eNil)) (eCall c 30 1 [] (eCons (eVar 2) eNil))))
def q5 (c : Oracle) : BF := (bOr (bCmp neP (eCall c 13 1 [] (eCons (eVar 2) eNil)) (eTup (eCons (eVar 7) (eCons (eCl tupP2 (eCons (eVar 8) eNil)) eNil)))) (bCmp neP (eCall c 14 2 [] (eCons (eVar 7) (eCons (eVar 8) eNil))) (eVar 2)))
def q6 (c : Oracle) : BF := (bOr (bCmp neP (eVar 5) (eTup (eCons (eC (.str [102, 117, 110])) (eCons (eC (.str [97])) (eCons (eTup (eCons (eC (.str [102, 117, 110])) (eCons (eC (.str [98])) (eCons (eTup (eCons (eC (.str [102, 117, 110])) (eCons (eC (.str [99])) (eCons (eVar 2) eNil)))) eNil)))) eNil))))) (bCmp neP (eCall c 14 2 [] (eCons (eVar 2) (eCons (eTup (eCons (eC (.str [120])) (eCons (eC (.int 1)) eNil))) eNil))) (eTup (eCons (eC (.str [97, 116])) (eCons (eTup (eCons (eC (.str [97, 116])) (eCons (eVar 2) (eCons (eC (.str [120])) eNil)))) (eCons (eC (.int 1)) eNil))))))
def q7 (c : Oracle) : BF := (bCmp neP (eCall c 1 1 [] (eCons (eVar 6) eNil)) (eAnd (eBin neP (eVar 6) (eC (.str []))) (eBin (inP false) (eBin ixP (eVar 6) (eC (.int 0))) (eC (.str [97, 95, 90])))))
def loopB (c : Oracle) : SF := (sSeq (sAsg (eCall c 23 3 [] (eCons (eVar 1) (eCons (eC (.int 5)) (eCons (eLst (eCons (eC (.str [119, 49])) (eCons (eC (.str [118, 95])) eNil))) eNil)))) (tgN 2)) (sSeq (sAsg (eCall c 7 1 [] (eCons (eVar 2) eNil)) (tgN 3)) (sSeq (sIf (q1 c) (sSeq (sRet (eC (.bl false))) sNil) sNil) (sSeq (sIf (q2 c) (sSeq (sRet (eC (.bl false))) sNil) sNil) (sSeq (sAsg (eCall c 26 1 [] (eCons (eVar 2) eNil)) (tgN 4)) (sSeq (sIf (q3 c) (sSeq (sRet (eC (.bl false))) sNil) sNil) (sSeq (sIf (q4 c) (sSeq (sRet (eC (.bl false))) sNil) sNil) (sSeq (sPar 7 8 (eCons (eVar 2) (eCons (eLst eNil) eNil))) (sSeq (whL (bAnd (bTru (eIs ["tuple"] (eVar 7))) (bCmp eqP (eBin ixP (eVar 7) (eC (.int 0))) (eC (.str [97, 116])))) (sSeq (sPar 7 8 (eCons (eBin ixP (eVar 7) (eC (.int 1))) (eCons (eBin addP (eLst (eCons (eBin ixP (eVar 7) (eC (.int 2))) eNil)) (eVar 8)) eNil))) sNil) 100000) (sSeq (sIf (q5 c) (sSeq (sRet (eC (.bl false))) sNil) sNil) (sSeq (sAsg (eCall c 15 2 [] (eCons (eTup (eCons (eC (.str [97])) (eCons (eC (.str [98])) (eCons (eC (.str [99])) eNil)))) (eCons (eVar 2) eNil))) (tgN 5)) (sSeq (sIf (q6 c) (sSeq (sRet (eC (.bl false))) sNil) sNil) (sSeq (sAsg (eM1 joinP (eC (.str [])) (eLc (iRg1 (eCons (eCall c 20 2 [] (eCons (eVar 1) (eCons (eC (.int 4)) eNil))) eNil)) (tgN 9) bYes (eBin ixP (eC (.str [97, 49, 95, 90])) (eCall c 20 2 [] (eCons (eVar 1) (eCons (eC (.int 4)) eNil)))) [9])) (tgN 6)) (sSeq (sIf (q7 c) (sSeq (sRet (eC (.bl false))) sNil) sNil) sNil))))))))))))))
theorem bLaw_eq (c l) : bLaw c l = (sSeq (sFor (iOf (eCall c 21 2 [] (eCons (eVar 0) (eCons (eC (.int 1)) eNil)))) (tgN 1) (loopB c)) sNil) := rfl
theorem okS_okC {s : List Nat} (h : ∀ c ∈ s, okC c) : okS s = true := okS_of fun c hc => by
  rcases h c hc with h | h | h
  · exact sgs_lt c h
  · have : ∀ c ∈ pcs, c < 128 := by decide
    exact this c h
  · have : ∀ c ∈ [32, 10], c < 128 := by decide
    exact this c h
theorem dat_sv {ws : List Wd} (h : ∀ w ∈ ws, okS w = true) : DatL 0 (sv ws) := .of fun x hx => by
  obtain ⟨w, hw, rfl⟩ := List.mem_map.mp hx
  exact .str _ (h w hw)
theorem lstT (xs : List PV) (S : Store) : lstP [.tup xs] S = some (.loc S.length, S ++ [.lst xs]) := rfl
section
variable {x0 x1 x3 x4 x5 x6 x7 x8 x9 : Option PV} {t : Tm}
theorem q1_s (h5 : t.dep ≤ 5) (S : Store) : WE (q1 (callF 140) [x0, x1, some t.pv, some (.str (t.text .all)), x4, x5, x6, x7, x8, x9] S) fun c S' => c = false ∧ Ext S S' := by
  have hz : t.size < 2 ^ 6 := Nat.lt_of_lt_of_le t.size_dep (Nat.pow_le_pow_right (by decide) (by omega))
  have hf := t.full_len
  have ht := t.text_len .all
  obtain ⟨ws, l1, g1⟩ := t.full_lex 10 (by omega)
  obtain ⟨vs, k, hk, l2, g2⟩ := (t.text_lex (by omega) 10 (by omega)).all
  have hgood : ∀ w ∈ wds t.full, Good w := lexS_good _ _ (fun _ h => nomatch h)
  have hlen : (wds t.full).length ≤ 2 * (t.full.length + 1) := by
    have := lexS_len (t.full ++ [32]) []
    rw [List.length_append] at this
    exact this
  have hsum : ((wds t.full).map List.length).sum ≤ t.full.length + 1 := by
    have := lexS_sum (t.full ++ [32]) []
    rw [List.length_append] at this
    simpa [wds] using this
  have hj := join_len (wds t.full)
  have D := t.dat.ne (n := t.dep) (by omega)
  unfold q1
  refine wbOr ?_
  walk_at "ev"
  refine ⟨rfl, ?_⟩
  refine (full_s t 140 (by omega) (by omega)).use ?_
  walk_at "ev"
  refine ⟨rfl, ?_⟩
  refine (read_s (d := 140) t.full_ok (by omega) l1 rowNP (.one g1) (by omega) (by omega)).use fun J1 => ?_
  walk_at "ev"
  refine ⟨_, _, D _, itF rfl ?_⟩
  refine wbOr ?_
  walk_at "ev"
  refine ⟨rfl, ?_⟩
  refine (read_s (d := 140) (t.text_ok .all) (by omega) l2 hk g2 (by omega) (by omega)).use fun J2 => ?_
  walk_at "ev"
  refine ⟨_, _, D _, itF rfl ?_⟩
  refine wbOr ?_
  walk_at "ev"
  refine ⟨rfl, ?_⟩
  refine (check_s t 140 0 (by omega) (by omega)).use ?_
  walk_at "ev"
  refine ⟨_, _, rfl, itF rfl ?_⟩
  walk_at "ev"
  refine ⟨rfl, ?_⟩
  refine (full_s t 140 (by omega) (by omega)).use ?_
  walk_at "ev"
  refine ⟨rfl, ?_⟩
  refine (words_s 139 t.full_ok (by omega)).use fun J3 => ?_
  walk_at "ev"
  refine .mk (lstT _ _) ?_
  walk_at "ev"
  refine ⟨rfl, ?_⟩
  refine (full_s t 140 (by omega) (by omega)).use ?_
  walk_at "ev"
  refine ⟨rfl, ?_⟩
  refine (words_s 139 t.full_ok (by omega)).use fun J4 => ?_
  refine .mk (joinT (by omega)) ?_
  walk_at "ev"
  refine ⟨rfl, ?_⟩
  refine (words_s 139 (join_ok _ hgood) (by omega)).use fun J5 => ?_
  walk_at "ev"
  refine .mk (lstT _ _) ?_
  have ej : wds (TL.joinL [32] (wds t.full)) = wds t.full := join_lex _ hgood
  rw [ej]
  refine ⟨_, _, neLists (n := 0) (dat_sv fun w hw => okS_okC (good_ok (hgood w hw))) (by omega) (grown (grown (grown lastS))) lastS, rfl, ?_⟩
  refine ⟨_, by simp only [List.append_assoc]; rfl⟩
theorem q2_s (h5 : t.dep ≤ 5) (S : Store) : WE (q2 (callF 140) [x0, x1, some t.pv, some (.str (t.text .all)), x4, x5, x6, x7, x8, x9] S) fun c S' => c = false ∧ Ext S S' := by
  have D : ∀ (w : Wh) (S : Store), neP (.str (t.text w)) (.str (t.text w)) S = some (.bl false, S) := fun w S => (Dat.str 0 (okS_okC (t.text_ok w))).ne (by omega) S
  unfold q2
  refine wbOr ?_
  walk_at "ev"
  refine ⟨rfl, ?_⟩
  refine (ltext_s t .all 140 (by omega) (by omega)).use ?_
  refine ⟨_, _, D .all _, itF rfl ?_⟩
  refine wbOr ?_
  walk_at "ev"
  refine ⟨rfl, ?_⟩
  refine (told_s t .first 140 (by omega) (by omega)).use fun J1 => ?_
  walk_at "ev"
  refine ⟨rfl, ?_⟩
  refine (ltext_s t .first 140 (by omega) (by omega)).use ?_
  refine ⟨_, _, D .first _, itF rfl ?_⟩
  walk_at "ev"
  refine ⟨rfl, ?_⟩
  refine (told_s t .last 140 (by omega) (by omega)).use fun J2 => ?_
  walk_at "ev"
  refine ⟨rfl, ?_⟩
  refine (ltext_s t .last 140 (by omega) (by omega)).use ?_
  refine ⟨_, _, D .last _, rfl, ?_⟩
  refine ⟨_, by simp only [List.append_assoc]; rfl⟩
theorem Tm.parts_dep : ∀ t : Tm, ∀ u ∈ t.parts, u.dep ≤ t.dep
  | .nm _, u, hu => by rw [List.mem_singleton.mp hu]; exact Nat.le_refl _
  | .num _, u, hu => by rw [List.mem_singleton.mp hu]; exact Nat.le_refl _
  | .fn m b, u, hu => by
    show u.dep ≤ b.dep + 1
    rcases List.mem_cons.mp hu with rfl | hu
    · exact Nat.le_refl _
    · have := b.parts_dep u hu; omega
  | .ap a b, u, hu => by
    show u.dep ≤ max a.dep b.dep + 1
    rcases List.mem_cons.mp hu with rfl | hu
    · exact Nat.le_refl _
    · rcases List.mem_append.mp hu with hu | hu
      · have := a.parts_dep u hu; omega
      · have := b.parts_dep u hu; omega
theorem dat_parts (h5 : t.dep ≤ 5) : DatL 5 (t.parts.map Tm.pv) := .of fun x hx => by
  obtain ⟨u, hu, rfl⟩ := List.mem_map.mp hx
  exact u.dat.le (Nat.le_trans (t.parts_dep u hu) h5)
theorem q3_s (h5 : t.dep ≤ 5) {S : Store} {l : Nat} (hn : S[l]? = some (.lst (nv t.free))) : WE (q3 (callF 140) [x0, x1, some t.pv, x3, some (.loc l), x5, x6, x7, x8, x9] S) fun c S' => c = false ∧ Ext S S' := by
  have DI : ∀ (i : Int) (S : Store), neP (.int i) (.int i) S = some (.bl false, S) := fun i S => (Dat.int 0 i).ne (by omega) S
  unfold q3
  refine wbOr ?_
  walk_at "ev"
  refine ⟨rfl, ?_⟩
  refine (free_s t 140 (by omega) (by omega)).use fun J1 => ?_
  walk_at "ev"
  refine .mk (lstT _ _) ?_
  walk_at "ev"
  refine ⟨_, _, neLists (datL_nv t.free) (by omega) lastS (grown (grown hn)), itF rfl ?_⟩
  refine wbOr ?_
  walk_at "ev"
  refine ⟨rfl, ?_⟩
  refine (all_s t 140 (by omega) (by omega)).use fun J2 => ?_
  walk_at "ev"
  refine .mk (lstT _ _) ?_
  walk_at "ev"
  refine ⟨rfl, ?_⟩
  refine (lall_s t 140 (by omega) (by omega)).use fun l2 J3 h1 h2 => ?_
  refine ⟨_, _, neLists (datL_nv t.all) (by omega) (grown lastS) h2, itF rfl ?_⟩
  refine wbOr ?_
  walk_at "ev"
  refine ⟨rfl, ?_⟩
  refine (within_s t 140 (by omega) (by omega)).use ?_
  walk_at "ev"
  refine .mk (lstT _ _) ?_
  walk_at "ev"
  refine ⟨rfl, ?_⟩
  refine (lwithin_s t 140 (by omega) (by omega)).use fun l3 J4 h3 h4 => ?_
  refine ⟨_, _, neLists (dat_parts h5) (by omega) (grown lastS) h4, itF rfl ?_⟩
  refine wbOr ?_
  walk_at "ev"
  refine ⟨rfl, ?_⟩
  refine (size_s t 140 (by omega)).use ?_
  walk_at "ev"
  refine ⟨rfl, ?_⟩
  refine (lwithin_s t 140 (by omega) (by omega)).use fun l4 J5 h5' h6 => ?_
  walk_at "ev"
  refine .mk (lenL h6) ?_
  rw [List.length_map, t.parts_len]
  refine ⟨_, _, DI _ _, itF rfl ?_⟩
  walk_at "ev"
  refine ⟨rfl, ?_⟩
  refine (depth_s t 140 (by omega)).use ?_
  walk_at "ev"
  refine ⟨rfl, ?_⟩
  refine (ldepth_s t 140 (by omega)).use ?_
  refine ⟨_, _, DI _ _, rfl, ?_⟩
  refine ⟨_, by simp only [List.append_assoc]; rfl⟩
theorem q4_s (h5 : t.dep ≤ 5) {S : Store} {l : Nat} (hn : S[l]? = some (.lst (nv t.free))) : WE (q4 (callF 140) [x0, x1, some t.pv, x3, some (.loc l), x5, x6, x7, x8, x9] S) fun c S' => c = false ∧ Ext S S' := by
  unfold q4
  refine wbOr ?_
  walk_at "ev"
  refine ⟨rfl, ?_⟩
  refine (closed_s t 139 (by omega) (by omega)).use fun J1 => ?_
  walk_at "ev"
  refine ⟨by show 0 ≤ LINE; decide, ?_⟩
  refine .mk (eqLstNil (datL_nv t.free) (by omega) (grown (grown hn)) lastS) ?_
  refine ⟨_, _, (Dat.bl 0 _).ne (by omega) _, itF rfl ?_⟩
  walk_at "ev"
  refine ⟨rfl, ?_⟩
  refine (tree_s t 140 (by omega) (by omega)).use ?_
  walk_at "ev"
  refine .mk (lstT _ _) ?_
  walk_at "ev"
  refine ⟨rfl, ?_⟩
  refine (ltree_s t 140 (by omega) (by omega)).use fun l2 J2 h1 h2 => ?_
  have hok : ∀ (t : Tm), ∀ w ∈ t.lines, okS w = true := by
    intro t
    induction t with
    | nm n => intro w hw; rw [List.mem_singleton.mp hw]; exact n.ok
    | num k => intro w hw; rw [List.mem_singleton.mp hw]; exact numS_ok k
    | fn m b ih =>
      intro w hw
      rcases List.mem_cons.mp hw with rfl | hw
      · exact okS_app rfl m.ok
      · obtain ⟨u, hu, rfl⟩ := List.mem_map.mp hw
        exact okS_app rfl (ih u hu)
    | ap a b iha ihb =>
      intro w hw
      rcases List.mem_cons.mp hw with rfl | hw
      · rfl
      · obtain ⟨u, hu, rfl⟩ := List.mem_map.mp hw
        rcases List.mem_append.mp hu with hu | hu
        · exact okS_app rfl (iha u hu)
        · exact okS_app rfl (ihb u hu)
  refine ⟨_, _, neLists (dat_sv (hok t)) (by omega) (grown lastS) h2, rfl, ?_⟩
  refine ⟨_, by simp only [List.append_assoc]; rfl⟩
theorem dat_args (h5 : t.dep ≤ 5) : DatL 5 (t.args.map Tm.pv) := .of fun x hx => by
  obtain ⟨u, hu, rfl⟩ := List.mem_map.mp hx
  exact u.dat.le (Nat.le_trans (t.args_dep u hu) h5)
theorem tupP_l {S : Store} {l : Nat} {xs : List PV} (h : S[l]? = some (.lst xs)) : tupP2 [.loc l] S = some (.tup xs, S) := by
  unfold tupP2
  simp only [h]
theorem q5_s (h5 : t.dep ≤ 5) {S : Store} {l : Nat} (hn : S[l]? = some (.lst (t.args.map Tm.pv))) : WE (q5 (callF 140) [x0, x1, some t.pv, x3, x4, x5, x6, some t.hd.pv, some (.loc l), x9] S) fun c S' => c = false ∧ Ext S S' := by
  have D : Dat 7 (.tup [t.hd.pv, .tup (t.args.map Tm.pv)]) := .tup (.of fun x hx => by
    simp only [List.mem_cons, List.not_mem_nil, or_false] at hx
    rcases hx with rfl | rfl
    · exact t.hd.dat.le (by have := t.hd_dep; omega)
    · exact (Dat.tup (dat_args h5)).le (by omega))
  unfold q5
  refine wbOr ?_
  walk_at "ev"
  refine ⟨rfl, ?_⟩
  refine (row_s t 139 (by omega)).use fun J1 => ?_
  walk_at "ev"
  refine .mk (tupP_l (grown hn)) ?_
  walk_at "ev"
  refine ⟨by show 2 ≤ LINE; decide, ?_⟩
  refine ⟨_, _, D.ne (by omega) _, itF rfl ?_⟩
  walk_at "ev"
  refine ⟨rfl, ?_⟩
  refine (put_sL (d := 139) (grown hn)).imp ?_
  rintro w S' ⟨rfl, rfl⟩
  rw [t.args_fold]
  walk_at "ev"
  refine ⟨_, _, t.dat.ne (by omega) _, rfl, ?_⟩
  exact ⟨_, rfl⟩
theorem dat_fn {n : Nat} {a b : PV} (s : List Nat) (hs : okS s = true) (h1 : Dat n a) (h2 : Dat n b) : Dat (n + 1) (.tup [.str s, a, b]) := .tup (.of fun x hx => by
  simp only [List.mem_cons, List.not_mem_nil, or_false] at hx
  rcases hx with rfl | rfl | rfl
  · exact .str _ hs
  · exact h1
  · exact h2)
theorem q6_s (h5 : t.dep ≤ 5) (S : Store) : WE (q6 (callF 140) [x0, x1, some t.pv, x3, x4, some (fnP (.str [97]) (fnP (.str [98]) (fnP (.str [99]) t.pv))), x6, x7, x8, x9] S) fun c S' => c = false ∧ Ext S S' := by
  have T : Dat 5 t.pv := t.dat.le h5
  have D : Dat 8 (fnP (.str [97]) (fnP (.str [98]) (fnP (.str [99]) t.pv))) := dat_fn _ rfl (.str _ rfl) (dat_fn _ rfl (.str _ rfl) (dat_fn _ rfl (.str _ rfl) T))
  have D2 : Dat 7 (apP (apP t.pv (.str [120])) (.int 1)) := dat_fn _ rfl (dat_fn _ rfl T (.str _ rfl)) (.int _ _)
  unfold q6
  refine wbOr ?_
  walk_at "ev"
  refine ⟨by show 3 ≤ LINE; decide, ?_⟩
  walk_at "ev"
  refine ⟨by show 3 ≤ LINE; decide, ?_⟩
  walk_at "ev"
  refine ⟨by show 3 ≤ LINE; decide, ?_⟩
  refine ⟨_, _, D.ne (by omega) _, itF rfl ?_⟩
  walk_at "ev"
  refine ⟨by show 2 ≤ LINE; decide, ?_⟩
  walk_at "ev"
  refine ⟨rfl, ?_⟩
  refine (put_sT (d := 139)).use ?_
  walk_at "ev"
  refine ⟨by show 3 ≤ LINE; decide, ?_⟩
  walk_at "ev"
  refine ⟨by show 3 ≤ LINE; decide, ?_⟩
  refine ⟨_, _, D2.ne (by omega) _, rfl, .refl⟩
theorem q7_s {w : Wd} (h : ∀ c ∈ w, c ∈ abc) (hl : w.length ≤ 3) (S : Store) : WE (q7 (callF 140) [x0, x1, x3, x4, x5, x6, some (.str w), x7, x8, x9] S) fun c S' => c = false ∧ S' = S := by
  unfold q7
  walk_at "ev"
  refine ⟨rfl, ?_⟩
  refine (name_w 139 h hl).use ?_
  refine wAndV ?_
  walk_at "ev"
  refine .mk (neStr (okS_abc h) rfl S) ?_
  refine ⟨_, rfl, ?_⟩
  have D : ∀ b : Bool, neP (.bl b) (.bl b) S = some (.bl false, S) := fun b => (Dat.bl 0 b).ne (by omega) S
  cases w with
  | nil => exact itF rfl ⟨_, _, D false, rfl, rfl⟩
  | cons c r =>
    refine itT rfl ?_
    walk_at "ev"
    refine .mk (ix0 (small (by omega))) ?_
    walk_at "ev"
    refine .mk rfl ?_
    have hc : c = 97 ∨ c = 49 ∨ c = 95 ∨ c = 90 := by
      have := h c (by simp)
      unfold abc at this
      simpa using this
    rcases hc with rfl | rfl | rfl | rfl
    · exact ⟨_, _, D true, rfl, rfl⟩
    · exact ⟨_, _, D false, rfl, rfl⟩
    · exact ⟨_, _, D true, rfl, rfl⟩
    · exact ⟨_, _, D true, rfl, rfl⟩
end

theorem wsIfF {tt : BF} {f : SF} {ρ : Env'} {S : Store} {Q : Fl → Store → Prop} (h : WE (tt ρ S) fun c S1 => c = false ∧ Ext S S1) (q : ∀ J, Q (.nx ρ) (S ++ J)) : WS (sIf tt f sNil ρ S) Q := wsIf (h.imp fun c S1 ⟨e, J, e2⟩ => by subst e e2; exact itF rfl (wsNil (q J)))
def headL (n : Nat) : SF := whL (bAnd (bTru (eIs ["tuple"] (eVar 7))) (bCmp eqP (eBin ixP (eVar 7) (eC (.int 0))) (eC (.str [97, 116])))) (sSeq (sPar 7 8 (eCons (eBin ixP (eVar 7) (eC (.int 1))) (eCons (eBin addP (eLst (eCons (eBin ixP (eVar 7) (eC (.int 2))) eNil)) (eVar 8)) eNil))) sNil) n
theorem head_l {x0 x1 x2 x3 x4 x5 x6 x9 : Option PV} {Q : Fl → Store → Prop} : ∀ (t : Tm) (n : Nat) (S : Store) (l : Nat) (acc : List PV), t.dep < n → S[l]? = some (.lst acc) → acc.length + t.dep ≤ 1000 →
    (∀ J l, (S ++ J)[l]? = some (.lst (t.args.map Tm.pv ++ acc)) → Q (.nx [x0, x1, x2, x3, x4, x5, x6, some t.hd.pv, some (.loc l), x9]) (S ++ J)) → WS (headL n [x0, x1, x2, x3, x4, x5, x6, some t.pv, some (.loc l), x9] S) Q
  | t, 0, S, l, acc, h, _, _, _ => absurd h (Nat.not_lt_zero _)
  | .nm m, n + 1, S, l, acc, h, hS, hl, q => by
    refine wwhile ?_
    walk_at "evr"
    have := q [] l (by rw [List.append_nil]; exact hS)
    rw [List.append_nil] at this
    exact this
  | .num m, n + 1, S, l, acc, h, hS, hl, q => by
    refine wwhile ?_
    walk_at "evr"
    have := q [] l (by rw [List.append_nil]; exact hS)
    rw [List.append_nil] at this
    exact this
  | .fn m b, n + 1, S, l, acc, h, hS, hl, q => by
    refine wwhile ?_
    walk_at "evr"
    have := q [] l (by rw [List.append_nil]; exact hS)
    rw [List.append_nil] at this
    exact this
  | .ap a b, n + 1, S, l, acc, h, hS, hl, q => by
    have h : max a.dep b.dep + 1 < n + 1 := h
    have hl : acc.length + (max a.dep b.dep + 1) ≤ 1000 := hl
    refine wwhile ?_
    refine wbAnd ?_
    walk_at "evr"
    try refine ⟨by show 1 ≤ LINE; decide, ?_⟩
    walk_at "ev"
    refine .mk (addL lastS (grown hS) (by show 1 + acc.length ≤ 16777216; omega)) ?_
    walk_at "ev"
    refine ⟨_, _, rfl, ?_⟩
    walk_at "ev"
    refine head_l a n _ _ ([b.pv] ++ acc) (by omega) lastS (by rw [List.length_append]; show 1 + acc.length + a.dep ≤ 1000; omega) fun J l h => ?_
    rw [List.append_assoc, List.append_assoc] at h ⊢
    refine q _ l ?_
    rw [h]
    simp [Tm.args]
theorem loop_s {S : Store} {p : Nat} {x0 x2 x3 x4 x5 x6 x7 x8 x9 : Option PV} {Q : Fl → Store → Prop} (hp : ∃ a b f : Int, S[p]? = some (.lst [.int a, .int b, .int f])) (q : ∀ ρ' S', Grow p S S' → Q (.nx ρ') S') : WS (loopB (callF 140) [x0, some (.loc p), x2, x3, x4, x5, x6, x7, x8, x9] S) Q := by
  unfold loopB
  refine wsSeq (wsSet ?_)
  walk_at "ev"
  refine ⟨by show 2 ≤ LINE; decide, ?_⟩
  walk_at "ev"
  refine ⟨rfl, ?_⟩
  have g0 : Grow p S (S ++ [.lst free2]) := by
    obtain ⟨a, b, f, h⟩ := hp
    exact (Grow.refl h).push _
  have hne : p ≠ S.length := by
    obtain ⟨a, b, f, h⟩ := hp
    exact Nat.ne_of_lt (List.getElem?_eq_some_iff.mp h).1
  refine (term_s 5 139 (S ++ [.lst free2]) p S.length (by omega) hne g0.dice lastS).imp ?_
  rintro _ S1 ⟨t, h5, rfl, g1⟩
  have g1 := g0.trans g1
  refine wsSeq (wsSet ?_)
  walk_at "ev"
  refine ⟨rfl, ?_⟩
  refine (told_term_s t 139 (by omega) (by omega)).use fun J2 => ?_
  have g2 := g1.ext (e := ⟨J2, rfl⟩)
  refine wsSeq (wsIfF (q1_s h5 _) fun J3 => ?_)
  have g3 := g2.ext (e := ⟨J3, rfl⟩)
  refine wsSeq (wsIfF (q2_s h5 _) fun J4 => ?_)
  have g4 := g3.ext (e := ⟨J4, rfl⟩)
  refine wsSeq (wsSet ?_)
  walk_at "ev"
  refine ⟨rfl, ?_⟩
  refine (lfree_s t 140 (by omega) (by omega)).use fun l J5 hl1 hl => ?_
  have g5 := g4.ext (e := ⟨J5, rfl⟩)
  refine wsSeq (wsIfF (q3_s h5 hl) fun J6 => ?_)
  have g6 := g5.ext (e := ⟨J6, rfl⟩)
  refine wsSeq (wsIfF (q4_s h5 (grown hl)) fun J7 => ?_)
  have g7 := g6.ext (e := ⟨J7, rfl⟩)
  refine wsSeq (wsPar ?_)
  walk_at "ev"
  refine ⟨by show 0 ≤ LINE; decide, ?_⟩
  walk_at "ev"
  refine ⟨_, _, rfl, ?_⟩
  refine wsSeq ?_
  have g8 := g7.push (.lst [])
  refine head_l t 100000 _ _ [] (by omega) lastS (by simp; omega) fun J8 l8 h8 => ?_
  rw [List.append_nil] at h8
  have g9 := g8.ext (e := ⟨J8, rfl⟩)
  refine wsSeq (wsIfF (q5_s h5 h8) fun J9 => ?_)
  have g10 := g9.ext (e := ⟨J9, rfl⟩)
  refine wsSeq (wsSet ?_)
  walk_at "ev"
  refine ⟨by show 3 ≤ LINE; decide, ?_⟩
  walk_at "ev"
  refine ⟨rfl, ?_⟩
  refine (funs_s (d := 139)).use ?_
  refine wsSeq (wsIfF (q6_s h5 _) fun J10 => ?_)
  have g11 := g10.ext (e := ⟨J10, rfl⟩)
  refine wsSeq (wsSet ?_)
  refine wM1 (wC ⟨_, rfl, ?_⟩)
  refine wLc (wRg1 ?_)
  walk_at "ev"
  refine ⟨rfl, (roll_c g11.dice (by decide) (by decide)).imp ?_⟩
  rintro _ S12 ⟨r, r0, r4, rfl, g12⟩
  have g12 := g11.trans g12
  refine wNil ⟨r, rfl, ?_, ?_⟩
  · show decide (-(2 ^ 62) ≤ r ∧ r < 2 ^ 62) = true
    exact decide_eq_true (by omega)
  · have g13 := g12.push (.lst [])
    have hp13 : S12.length ≠ p := by
      obtain ⟨a, b, f, h⟩ := g12.dice
      exact Nat.ne_of_gt (List.getElem?_eq_some_iff.mp h).1
    refine word_loop (S0 := S) g12.len hp13 (n := r.toNat) (by omega) r.toNat 0 _ [] _ (by omega) (by show _ < r.toNat + 1; omega) g13 lastS (fun _ h => nomatch h) rfl fun S14 w g14 h14 hw hl3 => ?_
    refine .mk (join_w h14 hl3) ?_
    refine wsSeq (wsIfF ((q7_s hw hl3 _).imp fun c S' ⟨e1, e2⟩ => ⟨e1, e2 ▸ Ext.refl⟩) fun J15 => ?_)
    exact wsNil (q _ _ (g14.ext (e := ⟨J15, rfl⟩)))
theorem loopOk : LoopOk := by
  intro ns so hso
  have h0 : ([so] : Store)[0]? = some (.lst (ns.map PV.int)) ∨ ([so] : Store)[0]? = some (.rol (ns.map PV.int)) := by
    rcases hso with rfl | rfl
    · exact .inl rfl
    · exact .inr rfl
  have W : WS (bLaw (callF 140) (lamP 140) ρ0 [so]) fun fl S' => ∃ ρ', fl = .nx ρ' := by
    rw [bLaw_eq]
    refine wsSeq (wsFor (wOf ?_))
    walk_at "ev"
    refine ⟨rfl, ?_⟩
    refine (rounds_s 138 ns [so] 0 h0).imp ?_
    rintro _ S1 ⟨k, p, a, b, f, rfl, hne, hk, hp⟩
    refine ⟨_, srcL hk, ?_⟩
    rw [fuelL hk]
    refine wforGo (v := .loc p) (by rw [nthL hk]; rfl) rfl ?_
    refine loop_s (S := S1) (p := p) ⟨a, b, f, hp⟩ fun ρ' S2 g => ?_
    have hk2 := g.get hne hk
    exact wforEnd (by rw [nthL hk2]; rfl) (wsNil ⟨_, rfl⟩)
  obtain ⟨fl, S', e, ρ', rfl⟩ := W
  exact ⟨ρ', S', e⟩

end K01
theorem PySem.Challenge.cw_lambdastack_k01_terms_told_as_text_holds : PySem.Challenge.rw_lambdastack_k01_terms_told_as_text.Holds := by
  exact K01.holds K01.loopOk K01.plain
