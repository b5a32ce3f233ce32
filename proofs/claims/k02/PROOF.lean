import PyProof.Rows.All
import HandS.ForExc
import HandS.ForMost
import HandS.IsInst
import HandS.Flow
import HandS.FStr
import HandS.TupAny
import HandS.Style
import HandS.Walk
import HandS.Conv
import HandS.More
import HandS.Defaults
import HandS.CallSlots
import HandS.DictComp
import HandS.Deep
import HandS.Lambda
import HandS.AnyAll
import HandS.RaiseMore
import HandS.Small
import HandS.Zip
import HandS.Codes
import KE.KDictList
import HandS.JoinGen
import PyProof.TupleOfGen
import HandS.HeadHook4
import HandS.HeadWalk
import HandS.Head2
import HandS.Iter
import HandS.Strs
import HandS.Dict
import PyProof.SumWalkG
import PyProof.WalkInts
import HandS.ExcValue
import PyProof.TupleOfStr
import PyProof.P3Eq
import HandS.Head0
import HandS.Head1
import HandS.HeadEnd
import HandS.HeadHook1
import HandS.HeadHook2
import PySem.Challenge.RW_lambdastack_k02_terms_without_names
set_option Elab.async false
set_option linter.all false
set_option maxRecDepth 100000
set_option maxHeartbeats 8000000

/-! Ev: a reckoner over plain values, sound over HandS. -/
namespace Ev
open PySem PySem.Spec PyProof.Rows L2

abbrev St := L2.St
abbrev LINE : Nat := 16777216
theorem line_eq : sizeLine = LINE := sizeLine_eq

/-! ### plain values -/
inductive PV where
  | non | bl (b : Bool) | int (i : Int) | str (s : List Nat) | tup (xs : List PV) | loc (l : Nat)
  deriving Inhabited
/-- what stands at a place of the store -/
inductive SO where
  | lst (xs : List PV) | rol (xs : List PV) | dic (kvs : List (PV × PV)) | ins (c : Nat) (fs : List (Str × PV)) | lam (j : Nat) | rdc (kvs : List (PV × PV))
  deriving Inhabited
abbrev Store := List SO
inductive R (α : Type) where
  | ok (a : α) (S : Store) | exc (c : Nat) (S : Store) | bad
def R.bind {α β : Type} (r : R α) (k : α → Store → R β) : R β := match r with
  | .ok a S => k a S
  | .exc c S => .exc c S
  | .bad => .bad
def R.ofO {α : Type} : Option (α × Store) → R α
  | some (a, S) => .ok a S
  | none => .bad
abbrev Env' := List (Option PV)

/-! ### how values are borne by the heap -/
mutual
inductive Rp (K : PySem.W.Frag) (μ : List Addr) (H : Hp) : PV → V → Prop
  | non : Rp K μ H .non .non
  | bl (b : Bool) : Rp K μ H (.bl b) (.bl b)
  | int (i : Int) : Rp K μ H (.int i) (.int i)
  | str (s : List Nat) : Rp K μ H (.str s) (.str ⟨s.toArray⟩)
  | tup {a : Addr} {vs : List V} {xs : List PV} (h : SqT K H a vs) (r : Rps K μ H xs vs) : Rp K μ H (.tup xs) (.ref a)
  | loc {a : Addr} {l : Nat} (h : μ[l]? = some a) : Rp K μ H (.loc l) (.ref a)
inductive Rps (K : PySem.W.Frag) (μ : List Addr) (H : Hp) : List PV → List V → Prop
  | nil : Rps K μ H [] []
  | cons {x : PV} {v : V} {xs : List PV} {vs : List V} (h : Rp K μ H x v) (r : Rps K μ H xs vs) : Rps K μ H (x :: xs) (v :: vs)
end

/-- a lambda without captured names: its maker's name for it, its text -/
structure LamT where
  q : Str
  params : Arguments
  body : Expr
  scope : Scope
/-- the function object at a is that lambda, its code object at c -/
def LamO (t : LamT) (a c : Addr) : HO := .ext fun h => ∃ (pm ctv : Value), h.get? a = some (PySem.W.kla_obj "<lambda>" t.q t.params t.body t.scope [] pm c ctv)
structure G where
  K : PySem.W.Frag
  cv : Nat → Value
  T : List (Addr × Option Str)
  lt : Nat → LamT

/-- tuples (and what is known) stay -/
structure Le (K : PySem.W.Frag) (H H' : Hp) : Prop where
  tup : ∀ a vs, SqT K H a vs → SqT K H' a vs
  frz : ∀ a o u, H a = some (.frz o u) → H' a = some (.frz o u)
  ext : ∀ a p, H a = some (.ext p) → H' a = some (.ext p)
theorem Le.refl {K : PySem.W.Frag} {H : Hp} : Le K H H := ⟨fun _ _ h => h, fun _ _ _ h => h, fun _ _ h => h⟩
theorem Le.trans {K : PySem.W.Frag} {H H1 H2 : Hp} (a : Le K H H1) (b : Le K H1 H2) : Le K H H2 := ⟨fun _ _ h => b.tup _ _ (a.tup _ _ h), fun _ _ _ h => b.frz _ _ _ (a.frz _ _ _ h), fun _ _ h => b.ext _ _ (a.ext _ _ h)⟩
/-- an object may be laid or written at a, where no tuple and nothing known stands -/
def Wr (H : Hp) (a : Addr) : Prop := (∀ vs, H a ≠ some (.tup vs)) ∧ (∀ o u, H a ≠ some (.frz o u)) ∧ (∀ ps, H a ≠ some (.tbl ps)) ∧ ∀ p, H a ≠ some (.ext p)
theorem Wr.none {H : Hp} {a : Addr} (h : H a = none) : Wr H a := ⟨fun _ z => (by rw [h] at z; cases z), fun _ _ z => (by rw [h] at z; cases z), fun _ z => (by rw [h] at z; cases z), fun _ z => (by rw [h] at z; cases z)⟩
theorem Wr.lst {H : Hp} {a : Addr} {vs : List V} (h : H a = some (.lst vs)) : Wr H a := ⟨fun _ z => (by rw [h] at z; cases z), fun _ _ z => (by rw [h] at z; cases z), fun _ z => (by rw [h] at z; cases z), fun _ z => (by rw [h] at z; cases z)⟩
theorem Wr.dK {H : Hp} {a : Addr} {vs : List (Key × V)} (h : H a = some (.dK vs)) : Wr H a := ⟨fun _ z => (by rw [h] at z; cases z), fun _ _ z => (by rw [h] at z; cases z), fun _ z => (by rw [h] at z; cases z), fun _ z => (by rw [h] at z; cases z)⟩
theorem Wr.ins {H : Hp} {a C dx : Addr} {fs : List (Str × V)} (h : H a = some (.ins C dx fs)) : Wr H a := ⟨fun _ z => (by rw [h] at z; cases z), fun _ _ z => (by rw [h] at z; cases z), fun _ z => (by rw [h] at z; cases z), fun _ z => (by rw [h] at z; cases z)⟩
theorem Le.upd {K : PySem.W.Frag} {H : Hp} {a : Addr} {o : HO} (w : Wr H a) : Le K H (upd H a o) := by
  refine ⟨fun b vs h => ?_, fun b ob u h => ?_, fun b p h => ?_⟩
  · rcases h with (h | ⟨ob, h⟩) | h
    · by_cases e : b = a
      · subst e; exact absurd h (w.1 _)
      · exact .inl (.inl (by rw [upd_ne e]; exact h))
    · by_cases e : b = a
      · subst e; exact absurd h (w.2.1 _ _)
      · exact .inl (.inr ⟨ob, by rw [upd_ne e]; exact h⟩)
    · exact .inr h
  · rw [upd_ne (fun e => by subst e; exact w.2.1 _ _ h)]; exact h
  · rw [upd_ne (fun e => by subst e; exact w.2.2.2 _ h)]; exact h

/-- places only come behind -/
abbrev Pre (μ μ' : List Addr) : Prop := ∃ t, μ' = μ ++ t
theorem Pre.refl {μ : List Addr} : Pre μ μ := ⟨[], by simp⟩
theorem Pre.trans {a b c : List Addr} (h : Pre a b) (k : Pre b c) : Pre a c := by
  obtain ⟨t, rfl⟩ := h; obtain ⟨u, rfl⟩ := k; exact ⟨t ++ u, by simp⟩
theorem Pre.get {μ μ' : List Addr} (h : Pre μ μ') {l : Nat} {a : Addr} (e : μ[l]? = some a) : μ'[l]? = some a := by
  obtain ⟨t, rfl⟩ := h
  rw [List.getElem?_append_left (List.getElem?_eq_some_iff.mp e).1]; exact e

mutual
theorem Rp.monoT {K : PySem.W.Frag} {μ μ' : List Addr} {H H' : Hp} (p : Pre μ μ') (l : ∀ a vs, SqT K H a vs → SqT K H' a vs) : ∀ {x : PV} {v : V}, Rp K μ H x v → Rp K μ' H' x v
  | _, _, .non => .non
  | _, _, .bl b => .bl b
  | _, _, .int i => .int i
  | _, _, .str s => .str s
  | _, _, .tup h r => .tup (l _ _ h) (Rps.monoT p l r)
  | _, _, .loc h => .loc (p.get h)
theorem Rps.monoT {K : PySem.W.Frag} {μ μ' : List Addr} {H H' : Hp} (p : Pre μ μ') (l : ∀ a vs, SqT K H a vs → SqT K H' a vs) : ∀ {x : List PV} {v : List V}, Rps K μ H x v → Rps K μ' H' x v
  | _, _, .nil => .nil
  | _, _, .cons h r => .cons (Rp.monoT p l h) (Rps.monoT p l r)
end
theorem Rp.mono {K : PySem.W.Frag} {μ μ' : List Addr} {H H' : Hp} (p : Pre μ μ') (l : Le K H H') {x : PV} {v : V} (r : Rp K μ H x v) : Rp K μ' H' x v := r.monoT p l.tup
theorem Rps.mono {K : PySem.W.Frag} {μ μ' : List Addr} {H H' : Hp} (p : Pre μ μ') (l : Le K H H') {x : List PV} {v : List V} (r : Rps K μ H x v) : Rps K μ' H' x v := r.monoT p l.tup
section
variable {K : PySem.W.Frag} {μ : List Addr} {H : Hp}
theorem Rps.length : ∀ {xs : List PV} {vs : List V}, Rps K μ H xs vs → xs.length = vs.length
  | _, _, .nil => rfl
  | _, _, .cons _ r => congrArg Nat.succ (Rps.length r)
theorem Rps.get : ∀ {xs : List PV} {vs : List V} {i : Nat} {x : PV}, Rps K μ H xs vs → xs[i]? = some x → ∃ v, vs[i]? = some v ∧ Rp K μ H x v
  | _, _, _, _, .nil, e => by simp at e
  | _, _, 0, _, .cons h _, e => by simp at e; subst e; exact ⟨_, rfl, h⟩
  | _, _, i + 1, x, .cons _ r, e => by
    obtain ⟨v, h1, h2⟩ := Rps.get (i := i) (x := x) r (by simpa using e)
    exact ⟨v, by simpa using h1, h2⟩
theorem Rps.getV : ∀ {xs : List PV} {vs : List V} {i : Nat} {v : V}, Rps K μ H xs vs → vs[i]? = some v → ∃ x, xs[i]? = some x ∧ Rp K μ H x v
  | _, _, _, _, .nil, e => by simp at e
  | _, _, 0, _, .cons h _, e => by simp at e; subst e; exact ⟨_, rfl, h⟩
  | _, _, i + 1, x, .cons _ r, e => by
    obtain ⟨v, h1, h2⟩ := Rps.getV (i := i) (v := x) r (by simpa using e)
    exact ⟨v, by simpa using h1, h2⟩
theorem Rps.append : ∀ {xs ys : List PV} {vs ws : List V}, Rps K μ H xs vs → Rps K μ H ys ws → Rps K μ H (xs ++ ys) (vs ++ ws)
  | _, _, _, _, .nil, s => s
  | _, _, _, _, .cons h r, s => .cons h (Rps.append r s)
theorem Rps.take : ∀ {xs : List PV} {vs : List V} (n : Nat), Rps K μ H xs vs → Rps K μ H (xs.take n) (vs.take n)
  | _, _, 0, _ => .nil
  | _, _, _ + 1, .nil => .nil
  | _, _, n + 1, .cons h r => .cons h (Rps.take n r)
theorem Rps.drop : ∀ {xs : List PV} {vs : List V} (n : Nat), Rps K μ H xs vs → Rps K μ H (xs.drop n) (vs.drop n)
  | _, _, 0, r => r
  | _, _, _ + 1, .nil => .nil
  | _, _, n + 1, .cons _ r => Rps.drop n r
theorem Rps.set : ∀ {xs : List PV} {vs : List V} (n : Nat) {x : PV} {v : V}, Rps K μ H xs vs → Rp K μ H x v → Rps K μ H (xs.set n x) (vs.set n v)
  | _, _, _, _, _, .nil, _ => .nil
  | _, _, 0, _, _, .cons _ r, q => .cons q r
  | _, _, n + 1, _, _, .cons h r, q => .cons h (Rps.set n r q)
theorem Rps.rev {xs : List PV} {vs : List V} (h : Rps K μ H xs vs) : Rps K μ H xs.reverse vs.reverse := by
  induction xs generalizing vs with
  | nil => cases h; exact .nil
  | cons x xs ih =>
    cases h with
    | cons a b => rw [List.reverse_cons, List.reverse_cons]; exact (ih b).append (.cons a .nil)
theorem Rps.snoc {xs : List PV} {vs : List V} {x : PV} {v : V} (h : Rps K μ H xs vs) (q : Rp K μ H x v) : Rps K μ H (xs ++ [x]) (vs ++ [v]) := h.append (.cons q .nil)
theorem Rps.none_of {xs : List PV} {vs : List V} {i : Nat} (h : Rps K μ H xs vs) (e : xs[i]? = none) : vs[i]? = none := by
  rw [List.getElem?_eq_none_iff] at e ⊢; rw [← h.length]; exact e
theorem Rps.vals2 {xs : List PV} {v w : V} (h : Rps K μ H xs [v, w]) : ∃ x y, xs = [x, y] ∧ Rp K μ H x v ∧ Rp K μ H y w := by
  cases h with
  | cons a b => cases b with
    | cons c d => cases d; exact ⟨_, _, rfl, a, c⟩
theorem Rps.nil_of {xs : List PV} {vs : List V} (h : Rps K μ H xs vs) (e : xs = []) : vs = [] := by subst e; cases h; rfl
end

/-- a key -/
inductive Rk : PV → Key → Prop
  | int (i : Int) : Rk (.int i) (.inl i)
  | str (s : List Nat) : Rk (.str s) (.inr ⟨s.toArray⟩)
inductive Rkv (K : PySem.W.Frag) (μ : List Addr) (H : Hp) : List (PV × PV) → List (Key × V) → Prop
  | nil : Rkv K μ H [] []
  | cons {k : PV} {k' : Key} {x : PV} {v : V} {xs : List (PV × PV)} {vs : List (Key × V)} (hk : Rk k k') (h : Rp K μ H x v) (r : Rkv K μ H xs vs) : Rkv K μ H ((k, x) :: xs) ((k', v) :: vs)
theorem Rkv.monoT {K : PySem.W.Frag} {μ μ' : List Addr} {H H' : Hp} (p : Pre μ μ') (l : ∀ a vs, SqT K H a vs → SqT K H' a vs) : ∀ {x : List (PV × PV)} {v : List (Key × V)}, Rkv K μ H x v → Rkv K μ' H' x v
  | _, _, .nil => .nil
  | _, _, .cons hk h r => .cons hk (h.monoT p l) (Rkv.monoT p l r)
theorem Rkv.mono {K : PySem.W.Frag} {μ μ' : List Addr} {H H' : Hp} (p : Pre μ μ') (l : Le K H H') {x : List (PV × PV)} {v : List (Key × V)} (r : Rkv K μ H x v) : Rkv K μ' H' x v := r.monoT p l.tup
inductive Rfs (K : PySem.W.Frag) (μ : List Addr) (H : Hp) : List (Str × PV) → List (Str × V) → Prop
  | nil : Rfs K μ H [] []
  | cons {k : Str} {x : PV} {v : V} {xs : List (Str × PV)} {vs : List (Str × V)} (h : Rp K μ H x v) (r : Rfs K μ H xs vs) : Rfs K μ H ((k, x) :: xs) ((k, v) :: vs)
theorem Rfs.monoT {K : PySem.W.Frag} {μ μ' : List Addr} {H H' : Hp} (p : Pre μ μ') (l : ∀ a vs, SqT K H a vs → SqT K H' a vs) : ∀ {x : List (Str × PV)} {v : List (Str × V)}, Rfs K μ H x v → Rfs K μ' H' x v
  | _, _, .nil => .nil
  | _, _, .cons h r => .cons (h.monoT p l) (Rfs.monoT p l r)
theorem Rfs.mono {K : PySem.W.Frag} {μ μ' : List Addr} {H H' : Hp} (p : Pre μ μ') (l : Le K H H') {x : List (Str × PV)} {v : List (Str × V)} (r : Rfs K μ H x v) : Rfs K μ' H' x v := r.monoT p l.tup

/-- what is only read: known to its object, or of the written part -/
def RoL (K : PySem.W.Frag) (H : Hp) (a : Addr) (xs : List V) : Prop := (∃ o, H a = some (.frz o (.lst xs))) ∨
    ∃ (o : Obj) (its : Array Value) (n : Nat), K.lookup a = some o ∧ o.cls = .type "list" ∧ o.dict = none ∧ o.data = .seq its n ∧ its.size ≤ sizeLine ∧ Vals xs its.toList
theorem RoL.sq {K : PySem.W.Frag} {H : Hp} {a : Addr} {xs : List V} (h : RoL K H a xs) : SqL K H a xs := h.elim (fun h => .inl (.inr h)) .inr
def SO.mut : SO → Bool
  | .rol _ => false
  | .lam _ => false
  | _ => true
/-- what may be written -/
def SO.wri : SO → Bool
  | .rol _ => false
  | .lam _ => false
  | .rdc _ => false
  | _ => true
theorem SO.wm {o : SO} (h : o.wri = true) : o.mut = true := by cases o <;> first | rfl | cases h
def Ro (g : G) (μ : List Addr) (H : Hp) (a : Addr) : SO → Prop
  | .lst xs => ∃ vs, H a = some (.lst vs) ∧ Rps g.K μ H xs vs
  | .rol xs => ∃ vs, RoL g.K H a vs ∧ Rps g.K μ H xs vs
  | .dic kvs => ∃ ks, H a = some (.dK ks) ∧ Rkv g.K μ H kvs ks
  | .ins c fs => ∃ (C dx : Addr) (vs : List (Str × V)), g.cv c = .ref C ∧ H a = some (.ins C dx vs) ∧ Rfs g.K μ H fs vs
  | .lam j => ∃ c, H a = some (LamO (g.lt j) a c) ∧ H c = some (LamX.CodeO c (g.lt j).q)
  | .rdc kvs => ∃ o ks, H a = some (.frz o (.dK ks)) ∧ Rkv g.K μ H kvs ks
/-- a table of code objects; of a def that makes lambdas, all bear their name -/
def TabN (H : Hp) (p : Addr × Option Str) : Prop := match p.2 with
  | none => GxR.TabG H p.1
  | some q => LamX.TabS H p.1 q
structure RS (g : G) (μ : List Addr) (S : Store) (H : Hp) : Prop where
  len : μ.length = S.length
  nd : ∀ (l l' : Nat) (a : Addr) (o o' : SO), μ[l]? = some a → μ[l']? = some a → S[l]? = some o → S[l']? = some o' → o.mut = true → o'.mut = true → l = l'
  obj : ∀ (l : Nat) (a : Addr) (o : SO), μ[l]? = some a → S[l]? = some o → Ro g μ H a o
  tabs : ∀ p ∈ g.T, TabN H p
structure RE (K : PySem.W.Frag) (μ : List Addr) (H : Hp) (ρ : Env') (σ : St) : Prop where
  len : ρ.length = σ.length
  at_ : ∀ (i : Nat) (v : PV), ρ[i]? = some (some v) → ∃ x, σ[i]? = some (some x) ∧ Rp K μ H v x
theorem RE.mono {K : PySem.W.Frag} {μ μ' : List Addr} {H H' : Hp} {ρ : Env'} {σ : St} (h : RE K μ H ρ σ) (p : Pre μ μ') (l : Le K H H') : RE K μ' H' ρ σ :=
  ⟨h.len, fun i v e => let ⟨x, a, b⟩ := h.at_ i v e; ⟨x, a, b.mono p l⟩⟩
theorem RE.set {K : PySem.W.Frag} {μ : List Addr} {H : Hp} {ρ : Env'} {σ : St} (h : RE K μ H ρ σ) {v : PV} {x : V} (r : Rp K μ H v x) (i : Nat) : RE K μ H (ρ.set i (some v)) (σ.set i (some x)) := by
  refine ⟨by simp [h.len], fun j w e => ?_⟩
  by_cases hj : i = j
  · subst hj
    by_cases hl : i < ρ.length
    · rw [List.getElem?_set_self hl] at e
      cases e
      exact ⟨x, List.getElem?_set_self (by rw [← h.len]; exact hl), r⟩
    · rw [List.getElem?_eq_none (by simpa using hl)] at e; cases e
  · rw [List.getElem?_set_ne hj] at e
    rw [List.getElem?_set_ne hj]
    exact h.at_ j w e

/-! ### what is wanted of an outcome -/
def Post (g : G) (W : Nat → List Addr → Store → Hp → Prop) (μ : List Addr) (H : Hp) {α β : Type} (rel : List Addr → Hp → α → β → Prop) (r : R α) (Q : β → Hp → Prop) : Prop := match r with
  | .ok a S' => ∀ μ' x H', Pre μ μ' → Le g.K H H' → RS g μ' S' H' → rel μ' H' a x → Q x H'
  | .exc c S' => ∀ μ' H', Pre μ μ' → Le g.K H H' → RS g μ' S' H' → W c μ' S' H'
  | .bad => False
/-- the wish about an exception at given slots -/
def wx (g : G) (W : WX) (σ : St) : Nat → List Addr → Store → Hp → Prop := fun c _ _ H => W (g.cv c) none σ H
abbrev PostE (g : G) (W : WX) (σ : St) (μ : List Addr) (H : Hp) (r : R PV) (Q : VK) : Prop := Post g (wx g W σ) μ H (Rp g.K) r Q
abbrev PostA (g : G) (W : WX) (σ : St) (μ : List Addr) (H : Hp) (r : R (List PV)) (Q : List V → Hp → Prop) : Prop := Post g (wx g W σ) μ H (Rps g.K) r Q
abbrev PostB (g : G) (W : WX) (σ : St) (μ : List Addr) (H : Hp) (r : R Bool) (Q : Bool → Hp → Prop) : Prop := Post g (wx g W σ) μ H (fun _ _ a b => a = b) r Q

section
variable {g : G} {W : Nat → List Addr → Store → Hp → Prop} {μ : List Addr} {H : Hp} {α β γ δ : Type} {rel : List Addr → Hp → α → β → Prop} {rel2 : List Addr → Hp → γ → δ → Prop}
theorem Post.imp {r : R α} {Q Q' : β → Hp → Prop} (p : Post g W μ H rel r Q) (h : ∀ x H', Q x H' → Q' x H') : Post g W μ H rel r Q' := by
  cases r with
  | ok a S' => exact fun μ' x H' a b c d => h _ _ (p μ' x H' a b c d)
  | exc c S' => exact p
  | bad => exact p
theorem Post.later {μ1 : List Addr} {H1 : Hp} {r : R α} {Q : β → Hp → Prop} (p : Post g W μ H rel r Q) (hp : Pre μ μ1) (hl : Le g.K H H1) : Post g W μ1 H1 rel r Q := by
  cases r with
  | ok a S' => exact fun μ' x H' a b c d => p μ' x H' (hp.trans a) (hl.trans b) c d
  | exc c S' => exact fun μ' H' a b c => p μ' H' (hp.trans a) (hl.trans b) c
  | bad => exact p
/-- one behind another -/
theorem Post.bind {r : R α} {k : α → Store → R γ} {Q : δ → Hp → Prop} (p : Post g W μ H rel2 (r.bind k) Q) :
    Post g W μ H rel r (fun x H1 => ∃ μ1 a S1, Pre μ μ1 ∧ Le g.K H H1 ∧ RS g μ1 S1 H1 ∧ rel μ1 H1 a x ∧ Post g W μ1 H1 rel2 (k a S1) Q) := by
  cases r with
  | ok a S' => exact fun μ' x H' hp hl rs rl => ⟨μ', a, S', hp, hl, rs, rl, Post.later (r := k a S') p hp hl⟩
  | exc c S' => exact p
  | bad => exact p
theorem Post.ofO {o : Option (α × Store)} {Q : β → Hp → Prop} (p : Post g W μ H rel (R.ofO o) Q) : ∃ a S', o = some (a, S') ∧ ∀ μ' x H', Pre μ μ' → Le g.K H H' → RS g μ' S' H' → rel μ' H' a x → Q x H' := by
  cases o with
  | none => exact p.elim
  | some q => obtain ⟨a, S'⟩ := q; exact ⟨a, S', rfl, p⟩
theorem Post.here {r : α} {S : Store} {Q : β → Hp → Prop} {x : β} (p : Post g W μ H rel (.ok r S) Q) (rs : RS g μ S H) (h : rel μ H r x) : Q x H := p μ x H .refl .refl rs h
end

/-! ### readings -/
def tEv (g : G) (W : WX) (f : Env' → Store → R PV) : TE := fun σ H Q => ∃ μ ρ S, RE g.K μ H ρ σ ∧ RS g μ S H ∧ PostE g W σ μ H (f ρ S) Q
def tEvA (g : G) (W : WX) (f : Env' → Store → R (List PV)) : TA := fun σ H Q => ∃ μ ρ S, RE g.K μ H ρ σ ∧ RS g μ S H ∧ PostA g W σ μ H (f ρ S) Q
def tEvB (g : G) (W : WX) (f : Env' → Store → R Bool) : TT := fun σ H Q => ∃ μ ρ S, RE g.K μ H ρ σ ∧ RS g μ S H ∧ PostB g W σ μ H (f ρ S) Q
abbrev SE (X : Cx) (g : G) (W : WX) (e : Expr) (f : Env' → Store → R PV) : Prop := PE X e (tEv g W f)
abbrev SA (X : Cx) (g : G) (W : WX) (es : List Expr) (f : Env' → Store → R (List PV)) : Prop := PA X es (tEvA g W f)
abbrev ST (X : Cx) (g : G) (W : WX) (e : Expr) (f : Env' → Store → R Bool) : Prop := PT X e (tEvB g W f)

section
variable {X : Cx}
theorem PEimp {e : Expr} {t t' : TE} (h : PE X e t) (i : ∀ σ H Q, t' σ H Q → t σ H Q) : PE X e t' := ⟨fun pins s σ H Q I q => h.run pins s σ H Q I (i _ _ _ q)⟩
theorem PAimp {e : List Expr} {t t' : TA} (h : PA X e t) (i : ∀ σ H Q, t' σ H Q → t σ H Q) : PA X e t' := ⟨fun pos pins s σ H Q I q => h.run pos pins s σ H Q I (i _ _ _ q)⟩
theorem PTimp {e : Expr} {t t' : TT} (h : PT X e t) (i : ∀ σ H Q, t' σ H Q → t σ H Q) : PT X e t' := ⟨fun pins s σ H Q I q => h.run pins s σ H Q I (i _ _ _ q)⟩
theorem PWimp {e : Expr} {t t' : TT} (h : PW X e t) (i : ∀ σ H Q, t' σ H Q → t σ H Q) : PW X e t' := ⟨fun wh pins s σ H Q I q => h.run wh pins s σ H Q I (i _ _ _ q)⟩
theorem PSimp {e : Stmt} {t t' : TS} (h : PS X e t) (i : ∀ D σ H, t' D σ H → t D σ H) : PS X e t' := ⟨fun pins s σ H D I q => h.run pins s σ H D I (i _ _ _ q)⟩
theorem PSsimp {e : List Stmt} {t t' : TS} (h : PSs X e t) (i : ∀ D σ H, t' D σ H → t D σ H) : PSs X e t' := ⟨fun pins s σ H D I q => h.run pins s σ H D I (i _ _ _ q)⟩
end

/-! ### expressions as functions -/
def eVar (i : Nat) : Env' → Store → R PV := fun ρ S => match ρ[i]? with
  | some (some v) => .ok v S
  | _ => .bad
def eC (v : PV) : Env' → Store → R PV := fun _ S => .ok v S
abbrev BOp := PV → PV → Store → Option (PV × Store)
def eBin (op : BOp) (a b : Env' → Store → R PV) : Env' → Store → R PV := fun ρ S => (a ρ S).bind fun v S1 => (b ρ S1).bind fun w S2 => R.ofO (op v w S2)
def eUn (op : PV → Store → Option (PV × Store)) (a : Env' → Store → R PV) : Env' → Store → R PV := fun ρ S => (a ρ S).bind fun v S1 => R.ofO (op v S1)
def eNil : Env' → Store → R (List PV) := fun _ S => .ok [] S
def eCons (a : Env' → Store → R PV) (r : Env' → Store → R (List PV)) : Env' → Store → R (List PV) := fun ρ S => (a ρ S).bind fun v S1 => (r ρ S1).bind fun vs S2 => .ok (v :: vs) S2
def eTup (a : Env' → Store → R (List PV)) : Env' → Store → R PV := fun ρ S => (a ρ S).bind fun vs S1 => if vs.length ≤ LINE then .ok (.tup vs) S1 else .bad
def eLst (a : Env' → Store → R (List PV)) : Env' → Store → R PV := fun ρ S => (a ρ S).bind fun vs S1 => if vs.length ≤ LINE then .ok (.loc S1.length) (S1 ++ [.lst vs]) else .bad
def eIf (t : Env' → Store → R Bool) (a b : Env' → Store → R PV) : Env' → Store → R PV := fun ρ S => (t ρ S).bind fun c S1 => if c then a ρ S1 else b ρ S1

/-! ### laying and writing -/
section
variable {g : G} {μ : List Addr} {S : Store} {H : Hp}
theorem tbl_keep {P a : Addr} {o : HO} {ps : Array Value} (e : H P = some (.tbl ps)) (w : Wr H a) : upd H a o P = some (.tbl ps) := by
  rw [upd_ne]
  · exact e
  · intro z; subst z; exact w.2.2.1 _ e
theorem ext_keep {b a : Addr} {o : HO} {p : Heap → Prop} (e : H b = some (.ext p)) (w : Wr H a) : upd H a o b = some (.ext p) := by
  rw [upd_ne]
  · exact e
  · intro z; subst z; exact w.2.2.2 _ e
theorem TabN.upd {p : Addr × Option Str} {a : Addr} {o : HO} (h : TabN H p) (w : Wr H a) : TabN (upd H a o) p := by
  obtain ⟨P, q⟩ := p
  cases q with
  | none =>
    obtain ⟨ps, e, t⟩ := h
    exact ⟨ps, tbl_keep e w, t⟩
  | some q =>
    obtain ⟨ps, e, t, n⟩ := h
    refine ⟨ps, tbl_keep e w, t, fun pos cv hc => ?_⟩
    obtain ⟨c, e1, e2⟩ := n pos cv hc
    exact ⟨c, e1, ext_keep e2 w⟩
theorem Ro.keep {μ' : List Addr} {a b : Addr} {o : HO} {so : SO} (h : Ro g μ H b so) (hp : Pre μ μ') (w : Wr H a) (ne : so.mut = true → b ≠ a) : Ro g μ' (upd H a o) b so := by
  have l : Le g.K H (upd H a o) := .upd w
  cases so with
  | lst xs => obtain ⟨vs, e, r⟩ := h; exact ⟨vs, by rw [upd_ne (ne rfl)]; exact e, r.mono hp l⟩
  | rol xs =>
    obtain ⟨vs, e, r⟩ := h
    refine ⟨vs, ?_, r.mono hp l⟩
    rcases e with ⟨ob, e⟩ | e
    · exact .inl ⟨ob, by rw [upd_ne (fun z => w.2.1 ob _ (z ▸ e))]; exact e⟩
    · exact .inr e
  | dic kvs => obtain ⟨ks, e, r⟩ := h; exact ⟨ks, by rw [upd_ne (ne rfl)]; exact e, r.mono hp l⟩
  | ins c fs => obtain ⟨C, dx, vs, e1, e, r⟩ := h; exact ⟨C, dx, vs, e1, by rw [upd_ne (ne rfl)]; exact e, r.mono hp l⟩
  | lam j => obtain ⟨c, e1, e2⟩ := h; exact ⟨c, ext_keep e1 w, ext_keep e2 w⟩
  | rdc kvs => obtain ⟨o2, ks, e, r⟩ := h; exact ⟨o2, ks, by rw [upd_ne (ne rfl)]; exact e, r.mono hp l⟩
/-- what is own stands -/
theorem Ro.has {a : Addr} {so : SO} (h : Ro g μ H a so) (m : so.mut = true) : ∃ o, H a = some o := by
  cases so with
  | lst xs => obtain ⟨vs, e, r⟩ := h; exact ⟨_, e⟩
  | rol xs => cases m
  | dic kvs => obtain ⟨vs, e, r⟩ := h; exact ⟨_, e⟩
  | ins c fs => obtain ⟨_, _, vs, _, e, r⟩ := h; exact ⟨_, e⟩
  | lam _ => cases m
  | rdc kvs => obtain ⟨o2, ks, e, r⟩ := h; exact ⟨_, e⟩
/-- what may be changed is tracked -/
theorem Ro.there {a : Addr} {so : SO} (h : Ro g μ H a so) (m : so.wri = true) : ∃ o, H a = some o ∧ Wr H a := by
  cases so with
  | lst xs => obtain ⟨vs, e, r⟩ := h; exact ⟨_, e, .lst e⟩
  | rol xs => cases m
  | dic kvs => obtain ⟨vs, e, r⟩ := h; exact ⟨_, e, .dK e⟩
  | ins c fs => obtain ⟨_, _, vs, _, e, r⟩ := h; exact ⟨_, e, .ins e⟩
  | lam _ => cases m
  | rdc _ => cases m
/-- a tuple (or what is no place of the store) laid -/
theorem RS.laid (rs : RS g μ S H) {p : Addr} {o : HO} (h : H p = none) : RS g μ S (upd H p o) :=
  ⟨rs.len, rs.nd, fun l a so e1 e2 => (rs.obj l a so e1 e2).keep .refl (.none h) fun m z => (by
    obtain ⟨u, e⟩ := (rs.obj l a so e1 e2).has m
    rw [z, h] at e
    cases e), fun P hP => (rs.tabs P hP).upd (.none h)⟩
/-- a new place -/
theorem RS.push (rs : RS g μ S H) {p : Addr} {o : HO} {so : SO} (h : H p = none) (n : Ro g (μ ++ [p]) (upd H p o) p so) : RS g (μ ++ [p]) (S ++ [so]) (upd H p o) := by
  have rl := rs.laid (o := o) h
  have at1 : ∀ {l : Nat} {a : Addr}, (μ ++ [p])[l]? = some a → l < μ.length ∧ μ[l]? = some a ∨ l = μ.length ∧ a = p := fun {l a} e => by
    by_cases hl : l < μ.length
    · rw [List.getElem?_append_left hl] at e; exact .inl ⟨hl, e⟩
    · have h2 : l < (μ ++ [p]).length := (List.getElem?_eq_some_iff.mp e).1
      rw [List.length_append, List.length_singleton] at h2
      have h3 : l = μ.length := by omega
      subst h3
      rw [List.getElem?_append_right (Nat.le_refl _), Nat.sub_self] at e
      exact .inr ⟨rfl, (Option.some.inj e).symm⟩
  have at2 : ∀ {l : Nat} {o : SO}, l < μ.length → (S ++ [so])[l]? = some o → S[l]? = some o := fun {l o} hl e => by
    rw [List.getElem?_append_left (by rw [← rs.len]; exact hl)] at e; exact e
  have at3 : ∀ {o : SO}, (S ++ [so])[μ.length]? = some o → o = so := fun {o} e => by
    rw [List.getElem?_append_right (by rw [rs.len]; exact Nat.le_refl _), rs.len, Nat.sub_self] at e
    exact (Option.some.inj e).symm
  have old : ∀ {l : Nat} {o : SO}, μ[l]? = some p → S[l]? = some o → o.mut = true → False := fun {l o} e1 e2 m => by
    obtain ⟨u, e⟩ := (rs.obj l p o e1 e2).has m
    rw [h] at e; cases e
  refine ⟨by rw [List.length_append, List.length_append, rs.len]; rfl, fun l l' a o o' e1 e2 e3 e4 m m' => ?_, fun l a so' e1 e2 => ?_, rl.tabs⟩
  · rcases at1 e1 with ⟨h1, f1⟩ | ⟨h1, f1⟩ <;> rcases at1 e2 with ⟨h2, f2⟩ | ⟨h2, f2⟩
    · exact rs.nd l l' a o o' f1 f2 (at2 h1 e3) (at2 h2 e4) m m'
    · exact (old (f2 ▸ f1) (at2 h1 e3) m).elim
    · exact (old (f1 ▸ f2) (at2 h2 e4) m').elim
    · exact h1.trans h2.symm
  · rcases at1 e1 with ⟨h1, f1⟩ | ⟨rfl, rfl⟩
    · exact (rs.obj l a so' f1 (at2 h1 e2)).keep ⟨[p], rfl⟩ (.none h) fun m z => old (z ▸ f1) (at2 h1 e2) m
    · rw [at3 e2]; exact n
/-- a place changed -/
theorem RS.put (rs : RS g μ S H) {l : Nat} {p : Addr} {o : HO} {so so0 : SO} (h1 : μ[l]? = some p) (h2 : S[l]? = some so0) (w0 : so0.wri = true) (m : so.mut = true) (n : Ro g μ (upd H p o) p so) : RS g μ (S.set l so) (upd H p o) := by
  have m0 := SO.wm w0
  obtain ⟨u, hu, w⟩ := (rs.obj l p so0 h1 h2).there w0
  have hl : l < S.length := (List.getElem?_eq_some_iff.mp h2).1
  have back : ∀ {k : Nat} {o' : SO}, (S.set l so)[k]? = some o' → o'.mut = true → ∃ o2, S[k]? = some o2 ∧ o2.mut = true := fun {k o'} e mm => by
    by_cases hk : l = k
    · subst hk; exact ⟨_, h2, m0⟩
    · rw [List.getElem?_set_ne hk] at e; exact ⟨_, e, mm⟩
  refine ⟨by rw [List.length_set]; exact rs.len, fun k k' a o1 o2 e1 e2 e3 e4 m1 m2 => ?_, fun k a so' e1 e2 => ?_, fun P hP => (rs.tabs P hP).upd w⟩
  · obtain ⟨q1, b1, c1⟩ := back e3 m1
    obtain ⟨q2, b2, c2⟩ := back e4 m2
    exact rs.nd k k' a q1 q2 e1 e2 b1 b2 c1 c2
  · by_cases hk : l = k
    · subst hk
      rw [List.getElem?_set_self hl] at e2
      cases e2
      rw [h1] at e1; cases e1
      exact n
    · rw [List.getElem?_set_ne hk] at e2
      exact (rs.obj k a so' e1 e2).keep .refl w fun mm z => hk (rs.nd l k p so0 so' h1 (z ▸ e1) h2 e2 m0 mm)
end
end Ev


/-! Ev: operators by values. -/
namespace Ev
open PySem PySem.Spec PyProof.Rows L2

theorem slen (s : List Nat) : (⟨s.toArray⟩ : Str).length = s.length := by
  show s.toArray.size = s.length
  simp
theorem sapp (a b : List Nat) : ((⟨a.toArray⟩ : Str) ++ ⟨b.toArray⟩) = ⟨(a ++ b).toArray⟩ := by
  show (⟨a.toArray ++ b.toArray⟩ : Str) = _
  rw [List.append_toArray]
theorem scps (a : List Nat) : (⟨a.toArray⟩ : Str).cps.toList = a := by simp
theorem sof (x : Str) : x = ⟨x.cps.toList.toArray⟩ := by cases x; simp

section
variable {g : G} {μ : List Addr} {S : Store} {H : Hp}
theorem RS.lst (rs : RS g μ S H) {l : Nat} {p : Addr} {xs : List PV} (h1 : μ[l]? = some p) (h2 : S[l]? = some (.lst xs)) : ∃ vs, H p = some (.lst vs) ∧ Rps g.K μ H xs vs := rs.obj l p _ h1 h2
theorem RS.dic (rs : RS g μ S H) {l : Nat} {p : Addr} {xs : List (PV × PV)} (h1 : μ[l]? = some p) (h2 : S[l]? = some (.dic xs)) : ∃ vs, H p = some (.dK vs) ∧ Rkv g.K μ H xs vs := rs.obj l p _ h1 h2
theorem RS.here (rs : RS g μ S H) {l : Nat} {o : SO} (h2 : S[l]? = some o) : ∃ p, μ[l]? = some p := by
  have h := (List.getElem?_eq_some_iff.mp h2).1
  rw [← rs.len] at h
  exact ⟨μ[l], List.getElem?_eq_getElem h⟩
theorem Rp.atEnd (rs : RS g μ S H) (p : Addr) (H' : Hp) : Rp g.K (μ ++ [p]) H' (.loc S.length) (.ref p) := .loc (by rw [← rs.len]; simp)
/-- a new list -/
theorem RS.newL (rs : RS g μ S H) {p : Addr} {xs : List PV} {vs : List V} (h : H p = none) (r : Rps g.K μ H xs vs) : RS g (μ ++ [p]) (S ++ [.lst xs]) (upd H p (.lst vs)) :=
  rs.push h ⟨vs, upd_same, r.mono ⟨[p], rfl⟩ (.upd (.none h))⟩
/-- a new tuple -/
theorem Rp.newT {p : Addr} {xs : List PV} {vs : List V} (h : H p = none) (r : Rps g.K μ H xs vs) : Rp g.K μ (upd H p (.tup vs)) (.tup xs) (.ref p) :=
  .tup (.inl (.inl upd_same)) (r.mono .refl (.upd (.none h)))
end

/-- what an operator is to do, by plain values -/
def rV2 (g : G) (f : BOp) : R2 := fun x y H Q => ∃ μ v w S z S', RS g μ S H ∧ Rp g.K μ H v x ∧ Rp g.K μ H w y ∧ f v w S = some (z, S') ∧
  ∀ μ' x' H', Pre μ μ' → Le g.K H H' → RS g μ' S' H' → Rp g.K μ' H' z x' → Q x' H'
def rV1 (g : G) (f : PV → Store → Option (PV × Store)) : V → Hp → VK → Prop := fun x H Q => ∃ μ v S z S', RS g μ S H ∧ Rp g.K μ H v x ∧ f v S = some (z, S') ∧
  ∀ μ' x' H', Pre μ μ' → Le g.K H H' → RS g μ' S' H' → Rp g.K μ' H' z x' → Q x' H'
def rVs (g : G) (f : List PV → Store → Option (PV × Store)) : List V → Hp → VK → Prop := fun xs H Q => ∃ μ vs S z S', RS g μ S H ∧ Rps g.K μ H vs xs ∧ f vs S = some (z, S') ∧
  ∀ μ' x' H', Pre μ μ' → Le g.K H H' → RS g μ' S' H' → Rp g.K μ' H' z x' → Q x' H'

/-! ### + - * // % ** -/
def addP : BOp
  | .int a, .int b, S => some (.int (a + b), S)
  | .str a, .str b, S => if a.length + b.length ≤ LINE then some (.str (a ++ b), S) else none
  | .tup a, .tup b, S => if a.length + b.length ≤ LINE then some (.tup (a ++ b), S) else none
  | .loc l, .loc k, S => match S[l]?, S[k]? with
    | some (.lst a), some (.lst b) => if a.length + b.length ≤ LINE then some (.loc S.length, S ++ [.lst (a ++ b)]) else none
    | _, _ => none
  | _, _, _ => none
def subP : BOp
  | .int a, .int b, S => some (.int (a - b), S)
  | _, _, _ => none
def mulP : BOp
  | .int a, .int b, S => if (-(2 ^ 64) < a ∧ a < 2 ^ 64) ∨ (-(2 ^ 64) < b ∧ b < 2 ^ 64) then some (.int (a * b), S) else none
  | .loc l, .int k, S => match S[l]? with
    | some (.lst a) => if -(2 ^ 63) ≤ k ∧ k < 2 ^ 63 ∧ a.length * k.toNat ≤ LINE then some (.loc S.length, S ++ [.lst (List.replicate k.toNat a).flatten]) else none
    | _ => none
  | .str a, .int k, S => if 0 ≤ k ∧ k < 1048576 ∧ a ≠ [] ∧ a.length * k.toNat ≤ LINE then some (.str (List.replicate k.toNat a).flatten, S) else none
  | _, _, _ => none
def modP : BOp
  | .int a, .int b, S => if 0 < b then some (.int (a % b), S) else none
  | _, _, _ => none
def fdivP : BOp
  | .int a, .int b, S => if 0 < b ∧ b < 1073741824 then some (.int (a / b), S) else none
  | _, _, _ => none
def powP : BOp
  | .int a, .int b, S => if 0 ≤ b ∧ b ≤ 1000000 ∧ a.natAbs < 2 ^ 64 then some (.int (a ^ b.toNat), S) else none
  | _, _, _ => none

section
variable {X : Cx} {g : G}
theorem opAdd (hK : X.K = g.K) : OpR X (binaryOp .Add) (rV2 g addP) := by
  intro pins s σ H x y v u Q I rx ry h
  obtain ⟨μ, a, b, S, z, S', rs, ra, rb, e, k⟩ := h
  unfold addP at e
  split at e
  · cases ra; cases rb; cases e
    exact op_add pins s σ H _ _ v u Q I rx ry ⟨_, _, rfl, rfl, k μ _ H .refl .refl rs (.int _)⟩
  · split at e
    · rename_i hl
      cases ra; cases rb; cases e
      refine op_add_str pins s σ H _ _ v u Q I rx ry ⟨_, _, rfl, rfl, by rw [slen, slen, line_eq]; exact hl, ?_⟩
      rw [sapp]
      exact k μ _ H .refl .refl rs (.str _)
    · cases e
  · split at e
    · rename_i hl
      cases ra with
      | tup h1 r1 =>
        cases rb with
        | tup h2 r2 =>
          cases e
          refine op_catA pins s σ H _ _ v u Q I rx ry ⟨_, _, _, _, rfl, rfl, by rw [hK]; exact h1, by rw [hK]; exact h2, by rw [← r1.length, ← r2.length, line_eq]; exact hl, fun e => ?_, fun _ e => ?_, fun _ _ p hp => ?_⟩
          · refine k μ _ H .refl .refl rs ?_
            have e2 := r1.length
            rw [e] at e2
            rw [List.eq_nil_of_length_eq_zero e2]
            exact .tup h2 r2
          · refine k μ _ H .refl .refl rs ?_
            have e2 := r2.length
            rw [e] at e2
            rw [List.eq_nil_of_length_eq_zero e2, List.append_nil]
            exact .tup h1 r1
          · exact k μ _ _ .refl (.upd (.none hp)) (rs.laid hp) (.newT hp (r1.append r2))
    · cases e
  · split at e
    · split at e
      · rename_i hl
        rename_i e1 e2
        cases ra with
        | loc h1 =>
          cases rb with
          | loc h2 =>
            cases e
            obtain ⟨vs, q1, r1⟩ := rs.lst h1 e1
            obtain ⟨ws, q2, r2⟩ := rs.lst h2 e2
            refine op_cat pins s σ H _ _ v u Q I rx ry ⟨_, _, _, _, rfl, rfl, q1, q2, by rw [← r1.length, ← r2.length, line_eq]; exact hl, fun p hp => ?_⟩
            exact k _ _ _ ⟨[p], rfl⟩ (.upd (.none hp)) (rs.newL hp (r1.append r2)) (Rp.atEnd rs p _)
      · cases e
    · cases e
  · cases e
theorem opSub : OpR X (binaryOp .Sub) (rV2 g subP) := by
  intro pins s σ H x y v u Q I rx ry h
  obtain ⟨μ, a, b, S, z, S', rs, ra, rb, e, k⟩ := h
  unfold subP at e
  split at e
  · cases ra; cases rb; cases e
    exact op_sub pins s σ H _ _ v u Q I rx ry ⟨_, _, rfl, rfl, k μ _ H .refl .refl rs (.int _)⟩
  · cases e
theorem Rps.rep {K : PySem.W.Frag} {μ : List Addr} {H : Hp} {xs : List PV} {vs : List V} (h : Rps K μ H xs vs) : ∀ k : Nat, Rps K μ H (List.replicate k xs).flatten (List.replicate k vs).flatten
  | 0 => .nil
  | k + 1 => by
    rw [List.replicate_succ, List.replicate_succ, List.flatten_cons, List.flatten_cons]
    exact h.append (Rps.rep h k)
theorem opMul : OpR X (binaryOp .Mult) (rV2 g mulP) := by
  intro pins s σ H x y v u Q I rx ry h
  obtain ⟨μ, a, b, S, z, S', rs, ra, rb, e, k⟩ := h
  unfold mulP at e
  split at e
  · split at e
    · rename_i hc
      cases ra; cases rb; cases e
      exact op_mul pins s σ H _ _ v u Q I rx ry ⟨_, _, rfl, rfl, hc, k μ _ H .refl .refl rs (.int _)⟩
    · cases e
  · split at e
    · split at e
      · rename_i e1 hc
        cases ra with
        | loc h1 =>
          cases rb
          cases e
          obtain ⟨vs, q1, r1⟩ := rs.lst h1 e1
          refine op_rep pins s σ H _ _ v u Q I rx ry ⟨_, _, _, rfl, rfl, q1, hc.1, hc.2.1, by rw [← r1.length, line_eq]; exact hc.2.2, fun p hp => ?_⟩
          exact k _ _ _ ⟨[p], rfl⟩ (.upd (.none hp)) (rs.newL hp (r1.rep _)) (Rp.atEnd rs p _)
      · cases e
    · cases e
  · split at e
    · rename_i a n hc
      obtain ⟨h1, h2, h3, h4⟩ := hc
      cases ra; cases rb; cases e
      obtain ⟨t, rfl⟩ := rx
      obtain ⟨t', rfl⟩ := ry
      have hl : (⟨a.toArray⟩ : Str).length = a.length := slen a
      have h0 := h1
      have hr0 : (decide (n < -(2 ^ 63 : Int)) || decide (n ≥ 2 ^ 63)) = false := by
        have q1 : ¬ n < -(2 ^ 63 : Int) := by omega
        have q2 : ¬ n ≥ 2 ^ 63 := by omega
        rw [decide_eq_false q1, decide_eq_false q2]; rfl
      by_cases hn0 : n < 1
      · obtain rfl : n = 0 := by omega
        exact PySem.P.mul_str_none hn0 (by omega) ⟨.str ⟨[].toArray⟩, H, I.tok _, ⟨_, rfl⟩, k μ _ H .refl .refl rs (.str [])⟩
      by_cases hn1 : n = 1
      · subst hn1
        refine PySem.P.mul_str hr0 (fun _ h => by cases h) (fun _ h => by cases h) ?_
        rw [if_neg hn0, if_pos (by rfl)]
        refine ⟨.str ⟨a.toArray⟩, H, I, ⟨_, rfl⟩, ?_⟩
        have := k μ _ H .refl .refl rs (.str (List.replicate (1 : Int).toNat a).flatten)
        have e1 : (List.replicate (1 : Int).toNat a).flatten = a := by simp
        rw [e1] at this
        exact this
      have h1 : 2 ≤ n := by omega
      have ha : a.length ≠ 0 := fun z => h3 (List.length_eq_zero_iff.mp z)
      have hlen : (List.replicate n.toNat a).flatten.length = a.length * n.toNat := by
        simp [List.length_flatten, List.map_replicate, List.sum_replicate_nat, Nat.mul_comm]
      have hf : ∀ (m : Nat) (acc : List Nat), (List.replicate m a.toArray).foldl (· ++ ·) acc.toArray = (acc ++ (List.replicate m a).flatten).toArray := by
        intro m
        induction m with
        | zero => intro acc; simp
        | succ m ih =>
          intro acc
          rw [List.replicate_succ, List.foldl_cons, List.replicate_succ, List.flatten_cons]
          have : acc.toArray ++ a.toArray = (acc ++ a).toArray := by simp
          rw [this, ih, List.append_assoc]
      have hf0 := hf n.toNat []
      simp only [List.nil_append] at hf0
      have e0 : ¬ n < 1 := by omega
      have e1 : (n == 1 || (⟨a.toArray⟩ : Str).length == 0) = false := by
        rw [hl]
        simp only [Bool.or_eq_false_iff, beq_eq_false_iff_ne]
        exact ⟨by omega, ha⟩
      refine PySem.P.mul_str (by
        have q1 : ¬ n < -(2 ^ 63 : Int) := by omega
        have q2 : ¬ n ≥ 2 ^ 63 := by omega
        rw [decide_eq_false q1, decide_eq_false q2]; rfl) (fun _ _ => ?_) (fun _ _ => ?_) ?_
      · rw [hl]
        have q3 : (16777216 : Int) ≤ 9223372036854775807 / n := by
          rw [Int.le_ediv_iff_mul_le (by omega)]
          omega
        have q3 : (16777216 : Int) ≤ (2 ^ 63 - 1) / n := q3
        have q4 : a.length ≤ LINE := Nat.le_trans (Nat.le_mul_of_pos_right _ (Int.lt_toNat.mpr (Int.lt_of_lt_of_le (by decide) h1))) h4
        have q5 : (a.length : Int) ≤ 16777216 := Int.ofNat_le.mpr q4
        exact Int.not_lt.mpr (Int.le_trans q5 q3)
      · rw [hl]
        exact decide_eq_false (by rw [line_eq]; exact Nat.not_lt.mpr h4)
      · rw [if_neg e0, if_neg (by rw [e1]; exact Bool.false_ne_true)]
        have e9 : (⟨(List.replicate n.toNat (⟨a.toArray⟩ : Str).cps).foldl (· ++ ·) #[]⟩ : Str) = ⟨(List.replicate n.toNat a).flatten.toArray⟩ := congrArg Str.mk hf0
        rw [e9]
        exact ⟨by rw [slen, hlen, line_eq]; exact h4, .str ⟨(List.replicate n.toNat a).flatten.toArray⟩, H, I.tok _, ⟨_, rfl⟩, k μ _ H .refl .refl rs (.str _)⟩
    · cases e
  · cases e
theorem opMod : OpR X (binaryOp .Mod) (rV2 g modP) := by
  intro pins s σ H x y v u Q I rx ry h
  obtain ⟨μ, a, b, S, z, S', rs, ra, rb, e, k⟩ := h
  unfold modP at e
  split at e
  · split at e
    · rename_i hc
      cases ra; cases rb; cases e
      exact op_mod pins s σ H _ _ v u Q I rx ry ⟨_, _, rfl, rfl, hc, k μ _ H .refl .refl rs (.int _)⟩
    · cases e
  · cases e
theorem opFdiv : OpR X (binaryOp .FloorDiv) (rV2 g fdivP) := by
  intro pins s σ H x y v u Q I rx ry h
  obtain ⟨μ, a, b, S, z, S', rs, ra, rb, e, k⟩ := h
  unfold fdivP at e
  split at e
  · split at e
    · rename_i hc
      cases ra; cases rb; cases e
      exact op_fdiv pins s σ H _ _ v u Q I rx ry ⟨_, _, rfl, rfl, hc, k μ _ H .refl .refl rs (.int _)⟩
    · cases e
  · cases e
theorem opPow : OpR X (binaryOp .Pow) (rV2 g powP) := by
  intro pins s σ H x y v u Q I rx ry h
  obtain ⟨μ, a, b, S, z, S', rs, ra, rb, e, k⟩ := h
  unfold powP at e
  split at e
  · split at e
    · rename_i hc
      cases ra; cases rb; cases e
      exact op_pow pins s σ H _ _ v u Q I rx ry ⟨_, _, rfl, rfl, hc, k μ _ H .refl .refl rs (.int _)⟩
    · cases e
  · cases e
end

/-! ### comparisons -/
def cmpI (p : Int → Int → Bool) : BOp
  | .int a, .int b, S => some (.bl (p a b), S)
  | _, _, _ => none
def ltP : BOp := cmpI fun i j => decide (i < j)
def leP : BOp := cmpI fun i j => decide (i ≤ j)
def gtP : BOp := cmpI fun i j => decide (j < i)
def geP : BOp := cmpI fun i j => decide (j ≤ i)
def okS (s : List Nat) : Bool := s.all (· < 0x110000)
/-- the data that a value is; n bounds its depth -/
def mapD (f : PV → Option PyData) : List PV → Option (List PyData)
  | [] => some []
  | x :: xs => match f x, mapD f xs with
    | some d, some ds => some (d :: ds)
    | _, _ => none
def toD (S : Store) : Nat → PV → Option PyData
  | _, .non => some .none
  | _, .bl b => some (.bool b)
  | _, .int i => some (.int i)
  | _, .str s => if okS s then some (.str ⟨s.toArray⟩) else none
  | 0, .tup _ => none
  | n + 1, .tup xs => (mapD (toD S n) xs).map .tuple
  | 0, .loc _ => none
  | n + 1, .loc l => match S[l]? with
    | some (.lst xs) => (mapD (toD S n) xs).map .list
    | some (.rol xs) => (mapD (toD S n) xs).map .list
    | _ => none
def eqP : BOp := fun v w S => match toD S 64 v, toD S 64 w with
  | some d, some e => some (.bl (PyData.eqv d e), S)
  | _, _ => none
def neP : BOp := fun v w S => match toD S 64 v, toD S 64 w with
  | some d, some e => some (.bl (!PyData.eqv d e), S)
  | _, _ => none

theorem depthAll_le {n : Nat} : ∀ {ds : List PyData}, (∀ d ∈ ds, d.depth ≤ n) → PyData.depthAll ds ≤ n
  | [], _ => Nat.zero_le _
  | d :: ds, h => by
    rw [PyData.depthAll]
    exact Nat.max_le.mpr ⟨h d (by simp), depthAll_le fun d' h' => h d' (by simp [h'])⟩
theorem canLayAll_of {ds : List PyData} (h : ∀ d ∈ ds, d.canLay0 = true) : PyData.canLayAll0 ds = true := by
  induction ds with
  | nil => rfl
  | cons d ds ih =>
    rw [PyData.canLayAll0, h d (by simp), ih fun d' h' => h d' (by simp [h'])]; rfl
section
variable {g : G} {μ : List Addr} {S : Store} {H : Hp}
theorem mapD_ok {f : PV → Option PyData} {n : Nat} (ih : ∀ v x d, Rp g.K μ H v x → f v = some d → Dp g.K H x d ∧ d.canLay0 = true ∧ d.depth ≤ n) :
    ∀ {xs : List PV} {vs : List V} {ds : List PyData}, Rps g.K μ H xs vs → mapD f xs = some ds → DpAll g.K H vs ds ∧ (∀ d ∈ ds, d.canLay0 = true) ∧ ∀ d ∈ ds, d.depth ≤ n
  | _, _, _, .nil, e => by cases e; exact ⟨.nil, fun _ h => (nomatch h), fun _ h => (nomatch h)⟩
  | _, _, _, .cons h r, e => by
    unfold mapD at e
    split at e
    · rename_i d ds e1 e2
      cases e
      obtain ⟨a1, a2, a3⟩ := ih _ _ _ h e1
      obtain ⟨b1, b2, b3⟩ := mapD_ok ih r e2
      refine ⟨.cons a1 b1, fun d hd => ?_, fun d hd => ?_⟩
      · rcases List.mem_cons.mp hd with rfl | hd
        · exact a2
        · exact b2 d hd
      · rcases List.mem_cons.mp hd with rfl | hd
        · exact a3
        · exact b3 d hd
    · cases e
theorem toD_ok (rs : RS g μ S H) : ∀ (n : Nat) (v : PV) (x : V) (d : PyData), Rp g.K μ H v x → toD S n v = some d → Dp g.K H x d ∧ d.canLay0 = true ∧ d.depth ≤ n := by
  intro n
  induction n with
  | zero =>
    intro v x d r e
    cases r with
    | non => cases e; exact ⟨.non, rfl, Nat.zero_le _⟩
    | bl b => cases e; exact ⟨.bl _, rfl, Nat.zero_le _⟩
    | int i => cases e; exact ⟨.int _, rfl, Nat.zero_le _⟩
    | str s =>
      unfold toD at e
      split at e
      · rename_i hs
        cases e
        refine ⟨.str _, ?_, Nat.zero_le _⟩
        rw [PyData.canLay0]
        show s.toArray.all _ = true
        rw [List.all_toArray]; exact hs
      · cases e
    | tup h r => cases e
    | loc h => cases e
  | succ n ih =>
    intro v x d r e
    cases r with
    | non => cases e; exact ⟨.non, rfl, Nat.zero_le _⟩
    | bl b => cases e; exact ⟨.bl _, rfl, Nat.zero_le _⟩
    | int i => cases e; exact ⟨.int _, rfl, Nat.zero_le _⟩
    | str s =>
      unfold toD at e
      split at e
      · rename_i hs
        cases e
        refine ⟨.str _, ?_, Nat.zero_le _⟩
        rw [PyData.canLay0]
        show s.toArray.all _ = true
        rw [List.all_toArray]; exact hs
      · cases e
    | tup h r =>
      unfold toD at e
      obtain ⟨ds, e1, rfl⟩ := Option.map_eq_some_iff.mp e
      obtain ⟨a1, a2, a3⟩ := mapD_ok ih r e1
      exact ⟨.tup h a1, by rw [PyData.canLay0]; exact canLayAll_of a2, by rw [PyData.depth]; exact Nat.succ_le_succ (depthAll_le a3)⟩
    | @loc a l h =>
      unfold toD at e
      split at e
      · rename_i xs e1
        obtain ⟨ds, e2, rfl⟩ := Option.map_eq_some_iff.mp e
        obtain ⟨vs, q1, r1⟩ := rs.lst h e1
        obtain ⟨a1, a2, a3⟩ := mapD_ok ih r1 e2
        exact ⟨.lst (.inl (.inl q1)) a1, by rw [PyData.canLay0]; exact canLayAll_of a2, by rw [PyData.depth]; exact Nat.succ_le_succ (depthAll_le a3)⟩
      · rename_i xs e1
        obtain ⟨ds, e2, rfl⟩ := Option.map_eq_some_iff.mp e
        obtain ⟨vs, q1, r1⟩ := rs.obj _ _ _ h e1
        obtain ⟨a1, a2, a3⟩ := mapD_ok ih r1 e2
        exact ⟨.lst q1.sq a1, by rw [PyData.canLay0]; exact canLayAll_of a2, by rw [PyData.depth]; exact Nat.succ_le_succ (depthAll_le a3)⟩
      · cases e
end
section
variable {X : Cx} {g : G}
theorem opLt : OpR X (compareOp .Lt) (rV2 g ltP) := by
  intro pins s σ H x y v u Q I rx ry h
  obtain ⟨μ, a, b, S, z, S', rs, ra, rb, e, k⟩ := h
  unfold ltP cmpI at e
  split at e
  · cases ra; cases rb; cases e
    exact op_lt pins s σ H _ _ v u Q I rx ry ⟨_, _, rfl, rfl, k μ _ H .refl .refl rs (.bl _)⟩
  · cases e
theorem opLe : OpR X (compareOp .LtE) (rV2 g leP) := by
  intro pins s σ H x y v u Q I rx ry h
  obtain ⟨μ, a, b, S, z, S', rs, ra, rb, e, k⟩ := h
  unfold leP cmpI at e
  split at e
  · cases ra; cases rb; cases e
    exact op_le pins s σ H _ _ v u Q I rx ry ⟨_, _, rfl, rfl, k μ _ H .refl .refl rs (.bl _)⟩
  · cases e
theorem opGt : OpR X (compareOp .Gt) (rV2 g gtP) := by
  intro pins s σ H x y v u Q I rx ry h
  obtain ⟨μ, a, b, S, z, S', rs, ra, rb, e, k⟩ := h
  unfold gtP cmpI at e
  split at e
  · cases ra; cases rb; cases e
    exact op_gt pins s σ H _ _ v u Q I rx ry ⟨_, _, rfl, rfl, k μ _ H .refl .refl rs (.bl _)⟩
  · cases e
theorem opGe : OpR X (compareOp .GtE) (rV2 g geP) := by
  intro pins s σ H x y v u Q I rx ry h
  obtain ⟨μ, a, b, S, z, S', rs, ra, rb, e, k⟩ := h
  unfold geP cmpI at e
  split at e
  · cases ra; cases rb; cases e
    exact op_ge pins s σ H _ _ v u Q I rx ry ⟨_, _, rfl, rfl, k μ _ H .refl .refl rs (.bl _)⟩
  · cases e
theorem opEq (hK : X.K = g.K) (hu : X.A.units + 64 < cLine) : OpR X (compareOp .Eq) (rV2 g eqP) := by
  intro pins s σ H x y v u Q I rx ry h
  obtain ⟨μ, a, b, S, z, S', rs, ra, rb, e, k⟩ := h
  unfold eqP at e
  split at e
  · rename_i d1 d2 e1 e2
    cases e
    obtain ⟨a1, a2, a3⟩ := toD_ok rs 64 a x d1 ra e1
    obtain ⟨b1, b2, b3⟩ := toD_ok rs 64 b y d2 rb e2
    rw [← hK] at a1 b1
    have sh : ∀ {d : PyData}, d.canLay0 = true → d.depth ≤ 64 → SeqAt.shaped d = true := fun {d} h1 h2 => by
      unfold SeqAt.shaped; rw [h1, decide_eq_true h2]; rfl
    exact op_eqD hu pins s σ H x y v u Q I rx ry ⟨d1, d2, a1, b1, sh a2 a3, sh b2 b3, k μ _ H .refl .refl rs (.bl _)⟩
  · cases e
theorem opNe (hK : X.K = g.K) (hu : X.A.units + 64 < cLine) : OpR X (compareOp .NotEq) (rV2 g neP) := by
  intro pins s σ H x y v u Q I rx ry h
  obtain ⟨μ, a, b, S, z, S', rs, ra, rb, e, k⟩ := h
  unfold neP at e
  split at e
  · rename_i d1 d2 e1 e2
    cases e
    obtain ⟨a1, a2, a3⟩ := toD_ok rs 64 a x d1 ra e1
    obtain ⟨b1, b2, b3⟩ := toD_ok rs 64 b y d2 rb e2
    rw [← hK] at a1 b1
    have sh : ∀ {d : PyData}, d.canLay0 = true → d.depth ≤ 64 → SeqAt.shaped d = true := fun {d} h1 h2 => by
      unfold SeqAt.shaped; rw [h1, decide_eq_true h2]; rfl
    exact op_neD hu pins s σ H x y v u Q I rx ry ⟨d1, d2, a1, b1, sh a2 a3, sh b2 b3, k μ _ H .refl .refl rs (.bl _)⟩
  · cases e
end

/-! ### is None, in -/
def isNP : BOp := fun v w S => match w with
  | .non => some (.bl (match v with | .non => true | _ => false), S)
  | _ => none
def notNP : BOp := fun v w S => match w with
  | .non => some (.bl (match v with | .non => false | _ => true), S)
  | _ => none
def flatP : PV → Bool
  | .tup _ => false
  | .loc _ => false
  | _ => true
def eqF : PV → PV → Bool
  | .non, .non => true
  | .bl a, .bl b => a == b
  | .int a, .int b => a == b
  | .bl a, .int j => (if a then 1 else 0) == j
  | .int j, .bl a => j == (if a then 1 else 0)
  | .str a, .str b => a == b
  | _, _ => false
def inF (x : PV) (xs : List PV) : Bool := xs.any fun y => eqF y x
def inP (neg : Bool) : BOp := fun v w S => match w with
  | .str t => match v with
    | .str [c] => some (.bl (if neg then !decide (c ∈ t) else decide (c ∈ t)), S)
    | _ => none
  | .tup xs => if flatP v && xs.all flatP then some (.bl (if neg then !inF v xs else inF v xs), S) else none
  | .loc l => match S[l]? with
    | some (.lst xs) => if flatP v && xs.all flatP then some (.bl (if neg then !inF v xs else inF v xs), S) else none
    | _ => none
  | _ => none
section
variable {X : Cx} {g : G} {μ : List Addr} {S : Store} {H : Hp}
theorem flat_of {v : PV} {x : V} (r : Rp g.K μ H v x) (f : flatP v = true) : flatV x = true := by
  cases r <;> first | rfl | cases f
theorem eqF_of {v w : PV} {x y : V} (r : Rp g.K μ H v x) (r2 : Rp g.K μ H w y) (f : flatP v = true) (f2 : flatP w = true) : eqV x y = eqF v w := by
  cases r <;> cases r2 <;> first | rfl | cases f | cases f2 | skip
  rename_i a b
  show decide ((⟨a.toArray⟩ : Str) = ⟨b.toArray⟩) = (a == b)
  by_cases e : a = b
  · subst e; simp
  · have : ¬ (⟨a.toArray⟩ : Str) = ⟨b.toArray⟩ := fun z => e (by have := congrArg (fun s : Str => s.cps.toList) z; simpa using this)
    rw [decide_eq_false this]; simp [e]
theorem flats_of : ∀ {xs : List PV} {vs : List V}, Rps g.K μ H xs vs → xs.all flatP = true → vs.all flatV = true
  | _, _, .nil, _ => rfl
  | _, _, .cons h r, f => by
    rw [List.all_cons, Bool.and_eq_true] at f ⊢
    exact ⟨flat_of h f.1, flats_of r f.2⟩
theorem inF_of {v : PV} {x : V} (r : Rp g.K μ H v x) (f : flatP v = true) : ∀ {xs : List PV} {vs : List V}, Rps g.K μ H xs vs → xs.all flatP = true → inV x vs = inF v xs
  | _, _, .nil, _ => rfl
  | _, _, .cons h rr, ff => by
    rw [List.all_cons, Bool.and_eq_true] at ff
    have ih := inF_of r f rr ff.2
    unfold inV inF at ih ⊢
    rw [List.any_cons, List.any_cons, ih, eqF_of h r ff.1 f]
theorem opIsN : OpR X (compareOp .Is) (rV2 g isNP) := by
  intro pins s σ H x y v u Q I rx ry h
  obtain ⟨μ, a, b, S, z, S', rs, ra, rb, e, k⟩ := h
  unfold isNP at e
  split at e
  · cases rb; cases e
    refine op_isN pins s σ H _ _ v u Q I rx ry ⟨rfl, ?_⟩
    refine k μ _ H .refl .refl rs ?_
    cases ra <;> exact .bl _
  · cases e
theorem opNotN : OpR X (compareOp .IsNot) (rV2 g notNP) := by
  intro pins s σ H x y v u Q I rx ry h
  obtain ⟨μ, a, b, S, z, S', rs, ra, rb, e, k⟩ := h
  unfold notNP at e
  split at e
  · cases rb; cases e
    refine op_notN pins s σ H _ _ v u Q I rx ry ⟨rfl, ?_⟩
    refine k μ _ H .refl .refl rs ?_
    cases ra <;> exact .bl _
  · cases e
theorem opIn (hK : X.K = g.K) : OpR X (compareOp .In) (rV2 g (inP false)) := by
  intro pins s σ H x y v u Q I rx ry h
  obtain ⟨μ, a, b, S, z, S', rs, ra, rb, e, k⟩ := h
  unfold inP at e
  split at e
  · split at e
    · cases rb; cases ra; cases e
      refine op_in_sign pins s σ H _ _ v u Q I rx ry ⟨_, _, rfl, rfl, ?_⟩
      rw [scps]
      exact k μ _ H .refl .refl rs (.bl _)
    · cases e
  · split at e
    · rename_i hf
      rw [Bool.and_eq_true] at hf
      cases rb with
      | tup h1 r1 =>
        cases e
        refine op_in_seq pins s σ H _ _ v u Q I rx ry ⟨_, _, rfl, .inr (by rw [hK]; exact h1), flat_of ra hf.1, flats_of r1 hf.2, ?_⟩
        refine k μ _ H .refl .refl rs ?_
        rw [inF_of ra hf.1 r1 hf.2]
        exact .bl _
    · cases e
  · split at e
    · split at e
      · rename_i e1 hf
        rw [Bool.and_eq_true] at hf
        cases rb with
        | loc h1 =>
          cases e
          obtain ⟨vs, q1, r1⟩ := rs.lst h1 e1
          refine op_in_seq pins s σ H _ _ v u Q I rx ry ⟨_, _, rfl, .inl (.inl (.inl q1)), flat_of ra hf.1, flats_of r1 hf.2, ?_⟩
          refine k μ _ H .refl .refl rs ?_
          rw [inF_of ra hf.1 r1 hf.2]
          exact .bl _
      · cases e
    · cases e
  · cases e
theorem opNotIn (hK : X.K = g.K) : OpR X (compareOp .NotIn) (rV2 g (inP true)) := by
  intro pins s σ H x y v u Q I rx ry h
  obtain ⟨μ, a, b, S, z, S', rs, ra, rb, e, k⟩ := h
  unfold inP at e
  split at e
  · split at e
    · cases rb; cases ra; cases e
      refine op_notIn_sign pins s σ H _ _ v u Q I rx ry ⟨_, _, rfl, rfl, ?_⟩
      rw [scps]
      exact k μ _ H .refl .refl rs (.bl _)
    · cases e
  · split at e
    · rename_i hf
      rw [Bool.and_eq_true] at hf
      cases rb with
      | tup h1 r1 =>
        cases e
        refine op_notIn_seq pins s σ H _ _ v u Q I rx ry ⟨_, _, rfl, .inr (by rw [hK]; exact h1), flat_of ra hf.1, flats_of r1 hf.2, ?_⟩
        refine k μ _ H .refl .refl rs ?_
        rw [inF_of ra hf.1 r1 hf.2]
        exact .bl _
    · cases e
  · split at e
    · split at e
      · rename_i e1 hf
        rw [Bool.and_eq_true] at hf
        cases rb with
        | loc h1 =>
          cases e
          obtain ⟨vs, q1, r1⟩ := rs.lst h1 e1
          refine op_notIn_seq pins s σ H _ _ v u Q I rx ry ⟨_, _, rfl, .inl (.inl (.inl q1)), flat_of ra hf.1, flats_of r1 hf.2, ?_⟩
          refine k μ _ H .refl .refl rs ?_
          rw [inF_of ra hf.1 r1 hf.2]
          exact .bl _
      · cases e
    · cases e
  · cases e
end
end Ev


/-! Ev: expressions. -/
namespace Ev
open PySem PySem.Spec PyProof.Rows L2

section
variable {X : Cx} {g : G} {W : WX} {pos : Pos}
theorem se_var {i : Nat} {x : Str} (hN : X.N[i]? = some x) (hv : Vis X.env.scope x) (hd : (x == ("__debug__" : Str)) = false := by decide) (hcd : (x == ("__classdict__" : Str)) = false := by decide) : SE X g W (.Name x pos) (eVar i) :=
  PEimp (pe_var hN hv hd hcd) fun σ H Q ⟨μ, ρ, S, re, rs, p⟩ => by
    unfold eVar at p
    split at p
    · rename_i v e
      obtain ⟨y, e2, r⟩ := re.at_ i v e
      exact ⟨y, e2, Post.here p rs r⟩
    · exact p.elim
theorem tC_of {v : PV} {y : V} (r : ∀ μ H, Rp g.K μ H v y) : ∀ σ H Q, tEv g W (eC v) σ H Q → tC y σ H Q := fun σ H Q ⟨μ, ρ, S, re, rs, p⟩ => Post.here p rs (r μ H)
theorem se_int {i : Int} {j : Nat} : SE X g W (.Constant (.int i) j pos) (eC (.int i)) := PEimp pe_int (tC_of fun _ _ => .int i)
theorem se_bl {b : Bool} {j : Nat} : SE X g W (.Constant (.bool b) j pos) (eC (.bl b)) := PEimp pe_bl (tC_of fun _ _ => .bl b)
theorem se_non {j : Nat} : SE X g W (.Constant .none j pos) (eC .non) := PEimp pe_non (tC_of fun _ _ => .non)
theorem se_str {x : Str} {j : Nat} (l : List Nat) (h : x = ⟨l.toArray⟩ := by decide +kernel) : SE X g W (.Constant (.str x) j pos) (eC (.str l)) := by
  subst h; exact PEimp pe_str (tC_of fun _ _ => .str l)
/-- a module's constant: an int, a text -/
theorem se_globI {x : Str} {i : Int} (hg : Gl X x) (hm : ∃ t, X.mg x = some (.int i t)) (hd : (x == ("__debug__" : Str)) = false := by decide) : SE X g W (.Name x pos) (eC (.int i)) := by
  obtain ⟨t, hm⟩ := hm
  exact PEimp (pe_glob (v := .int i) hg hm ⟨t, rfl⟩ hd) (tC_of fun _ _ => .int i)
theorem se_globS {x : Str} {l : List Nat} (hg : Gl X x) (hm : ∃ t, X.mg x = some (.str ⟨l.toArray⟩ t)) (hd : (x == ("__debug__" : Str)) = false := by decide) : SE X g W (.Name x pos) (eC (.str l)) := by
  obtain ⟨t, hm⟩ := hm
  exact PEimp (pe_glob (v := .str ⟨l.toArray⟩) hg hm ⟨t, rfl⟩ hd) (tC_of fun _ _ => .str l)

variable {a b c : Expr} {fa fb fc : Env' → Store → R PV} {es : List Expr} {fs : Env' → Store → R (List PV)}
/-- two behind one another: the start of a rule for a two-place operator -/
theorem two {k : PV → PV → Store → R PV} {σ : St} {H : Hp} {Q : VK} {r : V → V → Hp → Prop} (h : tEv g W (fun ρ S => (fa ρ S).bind fun v S1 => (fb ρ S1).bind fun w S2 => k v w S2) σ H Q)
    (hr : ∀ μ v w S x y H2, RS g μ S H2 → Rp g.K μ H2 v x → Rp g.K μ H2 w y → PostE g W σ μ H2 (k v w S) Q → r x y H2) :
    tEv g W fa σ H fun x H1 => tEv g W fb σ H1 fun y H2 => r x y H2 := by
  obtain ⟨μ, ρ, S, re, rs, p⟩ := h
  refine ⟨μ, ρ, S, re, rs, (Post.bind p).imp fun x H1 ⟨μ1, v, S1, p1, l1, rs1, rv, q⟩ => ?_⟩
  refine ⟨μ1, ρ, S1, re.mono p1 l1, rs1, (Post.bind q).imp fun y H2 ⟨μ2, w, S2, p2, l2, rs2, rw', q2⟩ => ?_⟩
  exact hr μ2 v w S2 x y H2 rs2 (rv.mono p2 l2) rw' q2
theorem one {k : PV → Store → R PV} {σ : St} {H : Hp} {Q : VK} {r : V → Hp → Prop} (h : tEv g W (fun ρ S => (fa ρ S).bind fun v S1 => k v S1) σ H Q)
    (hr : ∀ μ v S x H2, RS g μ S H2 → Rp g.K μ H2 v x → PostE g W σ μ H2 (k v S) Q → r x H2) : tEv g W fa σ H fun x H1 => r x H1 := by
  obtain ⟨μ, ρ, S, re, rs, p⟩ := h
  exact ⟨μ, ρ, S, re, rs, (Post.bind p).imp fun x H1 ⟨μ1, v, S1, p1, l1, rs1, rv, q⟩ => hr μ1 v S1 x H1 rs1 rv q⟩
theorem rV2_of {f : BOp} {σ : St} {μ : List Addr} {H : Hp} {v w : PV} {x y : V} {S : Store} {Q : VK} (rs : RS g μ S H) (rv : Rp g.K μ H v x) (rw' : Rp g.K μ H w y) (q : PostE g W σ μ H (R.ofO (f v w S)) Q) : rV2 g f x y H Q := by
  obtain ⟨z, S', e, k⟩ := Post.ofO q
  exact ⟨μ, v, w, S, z, S', rs, rv, rw', e, k⟩
theorem se_bin {op : Operator} {f : BOp} (ho : OpR X (binaryOp op) (rV2 g f)) (ha : SE X g W a fa) (hb : SE X g W b fb) : SE X g W (.BinOp a op b pos) (eBin f fa fb) :=
  PEimp (pe_op ho ha hb) fun σ H Q h => two h fun μ v w S x y H2 rs rv rw' q => rV2_of rs rv rw' q
/-- a comparison -/
theorem se_cmp {op : CmpOp} {f : BOp} (ho : OpR X (compareOp op) (rV2 g f)) (ha : SE X g W a fa) (hb : SE X g W b fb) (hm : behindInMarks op b = false := by first | exact nomark _ | rfl) : SE X g W (.Compare a [op] [b] pos) (eBin f fa fb) :=
  PEimp (pe_cmpR ho ha hb hm) fun σ H Q h => two h fun μ v w S x y H2 rs rv rw' q => rV2_of rs rv rw' q
theorem se_neg {i : Int} {j : Nat} {p2 : Pos} : SE X g W (.UnaryOp .USub (.Constant (.int i) j p2) pos) (eC (.int (-i))) :=
  PEimp (pe_un un_neg pe_int) fun σ H Q ⟨μ, ρ, S, re, rs, p⟩ => ⟨i, rfl, Post.here p rs (.int _)⟩

/-! ### tests -/
def truP : PV → Store → Option Bool
  | .non, _ => some false
  | .bl b, _ => some b
  | .int i, _ => some (i != 0)
  | .str s, _ => if s.length ≤ LINE then some (!s.isEmpty) else none
  | .tup xs, _ => some (!xs.isEmpty)
  | .loc l, S => match S[l]? with
    | some (.lst xs) => some (!xs.isEmpty)
    | some (.rol xs) => some (!xs.isEmpty)
    | some (.dic xs) => some (!xs.isEmpty)
    | _ => none
def bTru (f : Env' → Store → R PV) : Env' → Store → R Bool := fun ρ S => (f ρ S).bind fun v S1 => match truP v S1 with
  | some b => .ok b S1
  | none => .bad
def bCmp (op : BOp) (a b : Env' → Store → R PV) : Env' → Store → R Bool := fun ρ S => (a ρ S).bind fun v S1 => (b ρ S1).bind fun w S2 => match op v w S2 with
  | some (.bl c, S3) => .ok c S3
  | _ => .bad
def bAnd (a b : Env' → Store → R Bool) : Env' → Store → R Bool := fun ρ S => (a ρ S).bind fun c S1 => if c then b ρ S1 else .ok false S1
def bOr (a b : Env' → Store → R Bool) : Env' → Store → R Bool := fun ρ S => (a ρ S).bind fun c S1 => if c then .ok true S1 else b ρ S1
def bNot (a : Env' → Store → R Bool) : Env' → Store → R Bool := fun ρ S => (a ρ S).bind fun c S1 => .ok (!c) S1
theorem isE (s : List Nat) : (((⟨s.toArray⟩ : Str).length : Int) != 0) = !s.isEmpty := by
  rw [slen]
  cases s with
  | nil => rfl
  | cons c s => simp; omega
theorem Rps.isE {K : PySem.W.Frag} {μ : List Addr} {H : Hp} {xs : List PV} {vs : List V} (r : Rps K μ H xs vs) : vs.isEmpty = xs.isEmpty := by cases r <;> rfl
theorem Rkv.isE {K : PySem.W.Frag} {μ : List Addr} {H : Hp} {xs : List (PV × PV)} {vs : List (Key × V)} (r : Rkv K μ H xs vs) : vs.isEmpty = xs.isEmpty := by cases r <;> rfl
theorem truV {μ : List Addr} {S : Store} {H : Hp} {v : PV} {x : V} {k : Bool} (rs : RS g μ S H) (r : Rp g.K μ H v x) (e : truP v S = some k) : TruV g.K x H k := by
  cases r with
  | non => cases e; rfl
  | bl b => cases e; rfl
  | int i => cases e; rfl
  | str s =>
    simp only [truP] at e
    split at e
    · rename_i hl
      cases e
      exact ⟨by rw [slen, line_eq]; exact hl, (isE s).symm⟩
    · cases e
  | tup h r => cases e; exact .inr (.inl ⟨_, h, by rw [r.isE]⟩)
  | loc h =>
    simp only [truP] at e
    split at e
    · rename_i e1
      cases e
      obtain ⟨vs, q, r⟩ := rs.lst h e1
      exact .inl ⟨vs, .inl (.inl q), by rw [r.isE]⟩
    · rename_i e1
      cases e
      obtain ⟨vs, q, r⟩ := rs.obj _ _ _ h e1
      exact .inl ⟨vs, q.sq, by rw [r.isE]⟩
    · rename_i e1
      cases e
      obtain ⟨vs, q, r⟩ := rs.dic h e1
      exact .inr (.inr ⟨vs, q, by rw [r.isE]⟩)
    · cases e
variable {ta tb : Env' → Store → R Bool} {rest : List Expr}
theorem bOne {fa : Env' → Store → R PV} {k : PV → Store → R Bool} {σ : St} {H : Hp} {Q : Bool → Hp → Prop} {r : V → Hp → Prop} (h : tEvB g W (fun ρ S => (fa ρ S).bind fun v S1 => k v S1) σ H Q)
    (hr : ∀ μ v S x H2, RS g μ S H2 → Rp g.K μ H2 v x → PostB g W σ μ H2 (k v S) Q → r x H2) : tEv g W fa σ H fun x H1 => r x H1 := by
  obtain ⟨μ, ρ, S, re, rs, p⟩ := h
  exact ⟨μ, ρ, S, re, rs, (Post.bind p).imp fun x H1 ⟨μ1, v, S1, p1, l1, rs1, rv, q⟩ => hr μ1 v S1 x H1 rs1 rv q⟩
theorem st_tru (hK : X.K = g.K) (ha : SE X g W a fa) (he : ∀ whole, isTrue a X.env whole = (do let v ← whole; standAt a.pos; holding [v] (truthy v)) := by intro _; rfl) : ST X g W a (bTru fa) :=
  PTimp (pt_truth ha he) fun σ H Q h => bOne h fun μ v S x H2 rs rv q => by
    split at q
    · rename_i b e
      exact ⟨b, by rw [hK]; exact truV rs rv e, Post.here q rs rfl⟩
    · exact q.elim
theorem st_cmp {op : CmpOp} {f : BOp} (ho : OpR X (compareOp op) (rV2 g f)) (ha : SE X g W a fa) (hb : SE X g W b fb) (hm : behindInMarks op b = false := by first | exact nomark _ | rfl) : ST X g W (.Compare a [op] [b] pos) (bCmp f fa fb) :=
  PTimp (pt_cmpR ho ha hb hm) fun σ H Q h => by
    obtain ⟨μ, ρ, S, re, rs, p⟩ := h
    refine ⟨μ, ρ, S, re, rs, (Post.bind p).imp fun x H1 ⟨μ1, v, S1, p1, l1, rs1, rv, q⟩ => ?_⟩
    refine ⟨μ1, ρ, S1, re.mono p1 l1, rs1, (Post.bind q).imp fun y H2 ⟨μ2, w, S2, p2, l2, rs2, rw', q2⟩ => ?_⟩
    split at q2
    · rename_i c S3 e
      refine ⟨μ2, v, w, S2, .bl c, S3, rs2, rv.mono p2 l2, rw', e, fun μ' x' H' hp hl rs' r => ?_⟩
      cases r
      exact ⟨c, rfl, q2 μ' c H' hp hl rs' rfl⟩
    · exact q2.elim
theorem st_not (ha : ST X g W a ta) : ST X g W (.UnaryOp .Not a pos) (bNot ta) :=
  PTimp (pt_not ha) fun σ H Q h => by
    obtain ⟨μ, ρ, S, re, rs, p⟩ := h
    exact ⟨μ, ρ, S, re, rs, (Post.bind p).imp fun x H1 ⟨μ1, v, S1, p1, l1, rs1, rv, q⟩ => by subst rv; exact Post.here q rs1 rfl⟩
/-- a and b and .. as a test -/
abbrev SW (X : Cx) (g : G) (W : WX) (e : Expr) (f : Env' → Store → R Bool) : Prop := PW X e (tEvB g W f)
theorem sw_and1 (ha : ST X g W a ta) : SW X g W (.BoolOp .And [a] pos) ta := pw_and1 ha
theorem sw_or1 (ha : ST X g W a ta) : SW X g W (.BoolOp .Or [a] pos) ta := pw_or1 ha
theorem sw_and (ha : ST X g W a ta) (hb : SW X g W (.BoolOp .And (b :: rest) pos) tb) : SW X g W (.BoolOp .And (a :: b :: rest) pos) (bAnd ta tb) :=
  PWimp (pw_and ha hb) fun σ H Q h => by
    obtain ⟨μ, ρ, S, re, rs, p⟩ := h
    refine ⟨μ, ρ, S, re, rs, (Post.bind p).imp fun x H1 ⟨μ1, v, S1, p1, l1, rs1, rv, q⟩ => ?_⟩
    subst rv
    cases v with
    | true => exact ⟨μ1, ρ, S1, re.mono p1 l1, rs1, q⟩
    | false => exact Post.here q rs1 rfl
theorem sw_or (ha : ST X g W a ta) (hb : SW X g W (.BoolOp .Or (b :: rest) pos) tb) : SW X g W (.BoolOp .Or (a :: b :: rest) pos) (bOr ta tb) :=
  PWimp (pw_or ha hb) fun σ H Q h => by
    obtain ⟨μ, ρ, S, re, rs, p⟩ := h
    refine ⟨μ, ρ, S, re, rs, (Post.bind p).imp fun x H1 ⟨μ1, v, S1, p1, l1, rs1, rv, q⟩ => ?_⟩
    subst rv
    cases v with
    | false => exact ⟨μ1, ρ, S1, re.mono p1 l1, rs1, q⟩
    | true => exact Post.here q rs1 rfl
theorem st_w (h : SW X g W a ta) : ST X g W a ta := h.pt
/-- a < b < c -/
def bChn (o1 o2 : BOp) (a b c : Env' → Store → R PV) : Env' → Store → R Bool := fun ρ S => (a ρ S).bind fun v S1 => (b ρ S1).bind fun w S2 => match o1 v w S2 with
  | some (.bl k, S3) => if k then (c ρ S3).bind fun z S4 => match o2 w z S4 with
      | some (.bl k2, S5) => .ok k2 S5
      | _ => .bad
    else .ok false S3
  | _ => .bad
theorem st_chn {o1 o2 : CmpOp} {f1 f2 : BOp} (h1 : OpR X (compareOp o1) (rV2 g f1)) (h2 : OpR X (compareOp o2) (rV2 g f2)) (ha : SE X g W a fa) (hb : SE X g W b fb) (hc : SE X g W c fc) (m : lastMarks [o1, o2] [b, c] = false := by rfl) : ST X g W (.Compare a [o1, o2] [b, c] pos) (bChn f1 f2 fa fb fc) :=
  PTimp (pt_chain h1 h2 ha hb hc m) fun σ H Q h => by
    obtain ⟨μ, ρ, S, re, rs, p⟩ := h
    refine ⟨μ, ρ, S, re, rs, (Post.bind p).imp fun x H1 ⟨μ1, v, S1, p1, l1, rs1, rv, q⟩ => ?_⟩
    refine ⟨μ1, ρ, S1, re.mono p1 l1, rs1, (Post.bind q).imp fun y H2 ⟨μ2, w, S2, p2, l2, rs2, rw', q2⟩ => ?_⟩
    split at q2
    · rename_i k S3 e
      refine ⟨μ2, v, w, S2, .bl k, S3, rs2, rv.mono p2 l2, rw', e, fun μ' x' H' hp hl rs' r => ?_⟩
      cases r
      refine ⟨k, rfl, ?_⟩
      have q3 := Post.later q2 hp hl
      cases k with
      | false =>
        rw [if_neg Bool.false_ne_true]
        exact ⟨false, rfl, q3 μ' false H' .refl .refl rs' rfl⟩
      | true =>
        refine ⟨μ', ρ, S3, ((re.mono p1 l1).mono p2 l2).mono hp hl, rs', (Post.bind (r := fc ρ S3) q3).imp fun z H4 ⟨μ4, z', S4, p4, l4, rs4, rz, q4⟩ => ?_⟩
        split at q4
        · rename_i k2 S5 e2
          refine ⟨μ4, w, z', S4, .bl k2, S5, rs4, (rw'.mono hp hl).mono p4 l4, rz, e2, fun μ' x' H' hp hl rs' r => ?_⟩
          cases r
          exact ⟨k2, rfl, q4 μ' k2 H' hp hl rs' rfl⟩
        · exact q4.elim
    · exact q2.elim
/-- a test as a value (a chain) -/
def eB (t : Env' → Store → R Bool) : Env' → Store → R PV := fun ρ S => (t ρ S).bind fun c S1 => .ok (.bl c) S1
theorem se_chn {o1 o2 : CmpOp} {f1 f2 : BOp} (h1 : OpR X (compareOp o1) (rV2 g f1)) (h2 : OpR X (compareOp o2) (rV2 g f2)) (ha : SE X g W a fa) (hb : SE X g W b fb) (hc : SE X g W c fc) (m : lastMarks [o1, o2] [b, c] = false := by rfl) : SE X g W (.Compare a [o1, o2] [b, c] pos) (eB (bChn f1 f2 fa fb fc)) :=
  PEimp (pe_chain h1 h2 ha hb hc m) fun σ H Q h => by
    obtain ⟨μ, ρ, S, re, rs, p0⟩ := h
    have p : PostB g W σ μ H (bChn f1 f2 fa fb fc ρ S) (fun b H' => Q (.bl b) H') := by
      refine (Post.bind (rel := fun _ _ a b => a = b) p0).imp fun x H1 ⟨μ1, v, S1, p1, l1, rs1, rv, q⟩ => ?_
      subst rv
      exact Post.here q rs1 (.bl _)
    refine ⟨μ, ρ, S, re, rs, (Post.bind p).imp fun x H1 ⟨μ1, v, S1, p1, l1, rs1, rv, q⟩ => ?_⟩
    refine ⟨μ1, ρ, S1, re.mono p1 l1, rs1, (Post.bind q).imp fun y H2 ⟨μ2, w, S2, p2, l2, rs2, rw', q2⟩ => ?_⟩
    split at q2
    · rename_i k S3 e
      refine ⟨μ2, v, w, S2, .bl k, S3, rs2, rv.mono p2 l2, rw', e, fun μ' x' H' hp hl rs' r => ?_⟩
      cases r
      refine ⟨k, rfl, ?_⟩
      have q3 := Post.later q2 hp hl
      cases k with
      | false =>
        rw [if_neg Bool.false_ne_true]
        exact q3 μ' false H' .refl .refl rs' rfl
      | true =>
        refine ⟨μ', ρ, S3, ((re.mono p1 l1).mono p2 l2).mono hp hl, rs', (Post.bind (r := fc ρ S3) q3).imp fun z H4 ⟨μ4, z', S4, p4, l4, rs4, rz, q4⟩ => ?_⟩
        split at q4
        · rename_i k2 S5 e2
          refine ⟨μ4, w, z', S4, .bl k2, S5, rs4, (rw'.mono hp hl).mono p4 l4, rz, e2, fun μ' x' H' hp hl rs' r => ?_⟩
          cases r
          exact q4 μ' k2 H' hp hl rs' rfl
        · exact q4.elim
    · exact q2.elim
/-- x if t else y -/
theorem se_if {t : Expr} {ft : Env' → Store → R Bool} (ht : ST X g W t ft) (ha : SE X g W a fa) (hb : SE X g W b fb) : SE X g W (.IfExp t a b pos) (eIf ft fa fb) :=
  PEimp (pe_ifExp ht ha hb) fun σ H Q h => by
    obtain ⟨μ, ρ, S, re, rs, p⟩ := h
    refine ⟨μ, ρ, S, re, rs, (Post.bind p).imp fun x H1 ⟨μ1, v, S1, p1, l1, rs1, rv, q⟩ => ?_⟩
    subst rv
    cases v with
    | true => exact ⟨μ1, ρ, S1, re.mono p1 l1, rs1, q⟩
    | false => exact ⟨μ1, ρ, S1, re.mono p1 l1, rs1, q⟩
/-- a and b, a or b, not a as values -/
def eAnd (a b : Env' → Store → R PV) : Env' → Store → R PV := fun ρ S => (a ρ S).bind fun v S1 => match truP v S1 with
  | some true => b ρ S1
  | some false => .ok v S1
  | none => .bad
def eOr (a b : Env' → Store → R PV) : Env' → Store → R PV := fun ρ S => (a ρ S).bind fun v S1 => match truP v S1 with
  | some true => .ok v S1
  | some false => b ρ S1
  | none => .bad
def eNot (a : Env' → Store → R PV) : Env' → Store → R PV := fun ρ S => (a ρ S).bind fun v S1 => match truP v S1 with
  | some c => .ok (.bl (!c)) S1
  | none => .bad
theorem se_one {op : PySem.BoolOp} (ha : SE X g W a fa) : SE X g W (.BoolOp op [a] pos) fa := pe_one ha
theorem se_and (hK : X.K = g.K) (ha : SE X g W a fa) (hb : SE X g W (.BoolOp .And (b :: rest) pos) fb) : SE X g W (.BoolOp .And (a :: b :: rest) pos) (eAnd fa fb) :=
  PEimp (pe_andT ha hb) fun σ H Q h => by
    obtain ⟨μ, ρ, S, re, rs, p⟩ := h
    refine ⟨μ, ρ, S, re, rs, (Post.bind p).imp fun x H1 ⟨μ1, v, S1, p1, l1, rs1, rv, q⟩ => ?_⟩
    split at q
    · rename_i e; exact ⟨true, by rw [hK]; exact truV rs1 rv e, μ1, ρ, S1, re.mono p1 l1, rs1, q⟩
    · rename_i e; exact ⟨false, by rw [hK]; exact truV rs1 rv e, Post.here q rs1 rv⟩
    · exact q.elim
theorem se_or (hK : X.K = g.K) (ha : SE X g W a fa) (hb : SE X g W (.BoolOp .Or (b :: rest) pos) fb) : SE X g W (.BoolOp .Or (a :: b :: rest) pos) (eOr fa fb) :=
  PEimp (pe_orT ha hb) fun σ H Q h => by
    obtain ⟨μ, ρ, S, re, rs, p⟩ := h
    refine ⟨μ, ρ, S, re, rs, (Post.bind p).imp fun x H1 ⟨μ1, v, S1, p1, l1, rs1, rv, q⟩ => ?_⟩
    split at q
    · rename_i e; exact ⟨true, by rw [hK]; exact truV rs1 rv e, Post.here q rs1 rv⟩
    · rename_i e; exact ⟨false, by rw [hK]; exact truV rs1 rv e, μ1, ρ, S1, re.mono p1 l1, rs1, q⟩
    · exact q.elim
theorem se_not (hK : X.K = g.K) (ha : SE X g W a fa) : SE X g W (.UnaryOp .Not a pos) (eNot fa) :=
  PEimp (pe_notT ha) fun σ H Q h => one h fun μ v S x H2 rs rv q => by
    split at q
    · rename_i c e; exact ⟨c, by rw [hK]; exact truV rs rv e, Post.here q rs (.bl _)⟩
    · exact q.elim

/-! ### arguments, displays -/
theorem sa_nil : SA X g W [] eNil := PAimp pa_nil fun σ H Q ⟨μ, ρ, S, re, rs, p⟩ => Post.here p rs .nil
theorem sa_cons (ha : SE X g W a fa) (hr : SA X g W es fs) (hs : starEach (a :: es) X.env = (false, eval a X.env) :: starEach es X.env := by rfl) : SA X g W (a :: es) (eCons fa fs) :=
  PAimp (pa_cons ha hr hs) fun σ H Q h => by
    obtain ⟨μ, ρ, S, re, rs, p⟩ := h
    refine ⟨μ, ρ, S, re, rs, (Post.bind p).imp fun x H1 ⟨μ1, v, S1, p1, l1, rs1, rv, q⟩ => ?_⟩
    refine ⟨μ1, ρ, S1, re.mono p1 l1, rs1, (Post.bind (rel := Rps g.K) q).imp fun xs H2 ⟨μ2, vs, S2, p2, l2, rs2, rvs, q2⟩ => ?_⟩
    exact Post.here q2 rs2 (.cons (rv.mono p2 l2) rvs)
theorem aOne {k : List PV → Store → R PV} {σ : St} {H : Hp} {Q : VK} {r : List V → Hp → Prop} (h : tEv g W (fun ρ S => (fs ρ S).bind fun v S1 => k v S1) σ H Q)
    (hr : ∀ μ vs S xs H2, RS g μ S H2 → Rps g.K μ H2 vs xs → PostE g W σ μ H2 (k vs S) Q → r xs H2) : tEvA g W fs σ H fun x H1 => r x H1 := by
  obtain ⟨μ, ρ, S, re, rs, p⟩ := h
  exact ⟨μ, ρ, S, re, rs, (Post.bind p).imp fun x H1 ⟨μ1, v, S1, p1, l1, rs1, rv, q⟩ => hr μ1 v S1 x H1 rs1 rv q⟩
theorem se_tup {k : Nat} (h : SA X g W es fs) : SE X g W (.Tuple es k pos) (eTup fs) :=
  PEimp (pe_tup h) fun σ H Q q => aOne q fun μ vs S xs H2 rs rv q => by
    split at q
    · rename_i hl
      exact ⟨by rw [← rv.length, line_eq]; exact hl, fun p hp => q μ _ _ .refl (.upd (.none hp)) (rs.laid hp) (.newT hp rv)⟩
    · exact q.elim
theorem se_lst (h : SA X g W es fs) : SE X g W (.List es pos) (eLst fs) :=
  PEimp (pe_lst h) fun σ H Q q => aOne q fun μ vs S xs H2 rs rv q => by
    split at q
    · rename_i hl
      exact ⟨by rw [← rv.length, line_eq]; exact hl, fun p hp => q _ _ _ ⟨[p], rfl⟩ (.upd (.none hp)) (rs.newL hp rv) (Rp.atEnd rs p _)⟩
    · exact q.elim

/-! ### subscripts and slices -/
def ixP : BOp
  | .tup xs, .int i, S => match atI xs i with
    | some v => some (v, S)
    | none => none
  | .str s, .int i, S => if s.length ≤ LINE then match atI s i with
      | some c => some (.str [c], S)
      | none => none
    else none
  | .loc l, .int i, S => match S[l]? with
    | some (.lst xs) => match atI xs i with
      | some v => some (v, S)
      | none => none
    | _ => none
  | _, _, _ => none
theorem ixN_len {α β : Type} {xs : List α} {ys : List β} (h : xs.length = ys.length) (i : Int) : ixN xs.length i = ixN ys.length i := by rw [h]
theorem Rps.atI {K : PySem.W.Frag} {μ : List Addr} {H : Hp} {xs : List PV} {vs : List V} (r : Rps K μ H xs vs) {i : Int} {v : PV} (h : L2.atI xs i = some v) : ∃ x, L2.atI vs i = some x ∧ Rp K μ H v x := by
  unfold L2.atI at h ⊢
  rw [← ixN_len r.length i]
  cases e : ixN xs.length i with
  | none => rw [e] at h; cases h
  | some j =>
    rw [e] at h
    obtain ⟨x, e2, rx⟩ := r.get (i := j) h
    exact ⟨x, e2, rx⟩
theorem ixV (hK : X.K = g.K) : IxR X (rV2 g ixP) := by
  intro value slice pins s σ H x y v u Q I rx ry h hs
  obtain ⟨μ, a, b, S, z, S', rs, ra, rb, e, k⟩ := h
  unfold ixP at e
  split at e
  · split at e
    · rename_i v' e1
      cases e
      cases rb
      cases ra with
      | tup h1 r1 =>
        obtain ⟨xv, e2, rxv⟩ := r1.atI e1
        exact ix_tup value slice pins s σ H _ _ v u Q I rx ry ⟨_, _, _, xv, rfl, rfl, by rw [hK]; exact h1, e2, k μ _ H .refl .refl rs rxv⟩ hs
    · cases e
  · split at e
    · rename_i hl
      split at e
      · rename_i c e1
        cases e
        cases rb
        cases ra
        exact ix_str value slice pins s σ H _ _ v u Q I rx ry ⟨_, _, c, rfl, rfl, by rw [slen, line_eq]; exact hl, by rw [scps]; exact e1, k μ _ H .refl .refl rs (.str [c])⟩ hs
      · cases e
    · cases e
  · split at e
    · rename_i e0
      split at e
      · rename_i v' e1
        cases e
        cases rb
        cases ra with
        | loc h1 =>
          obtain ⟨vs, q1, r1⟩ := rs.lst h1 e0
          obtain ⟨xv, e2, rxv⟩ := r1.atI e1
          exact ix_list value slice pins s σ H _ _ v u Q I rx ry ⟨_, _, _, xv, rfl, rfl, .inl (.inl q1), e2, k μ _ H .refl .refl rs rxv⟩ hs
      · cases e
    · cases e
  · cases e
theorem se_ix (hK : X.K = g.K) (ha : SE X g W a fa) (hb : SE X g W b fb) (hs : PlainIx b := by exact fun _ _ => rfl) : SE X g W (.Subscript a b pos) (eBin ixP fa fb) :=
  PEimp (pe_ix (ixV hK) ha hb hs) fun σ H Q h => two h fun μ v w S x y H2 rs rv rw' q => rV2_of rs rv rw' q
/-- the part of a slice -/
def cutL {α : Type} (xs : List α) (lo hi : Option Int) : List α := (xs.drop (HT.sIx xs.length 0 lo)).take (HT.sIx xs.length xs.length hi - HT.sIx xs.length 0 lo)
def slP (v : PV) (lo hi : Option Int) (S : Store) : Option (PV × Store) := match v with
  | .tup xs => some (.tup (cutL xs lo hi), S)
  | .str s => if s.length ≤ LINE then some (.str (cutL s lo hi), S) else none
  | .loc l => match S[l]? with
    | some (.lst xs) => some (.loc S.length, S ++ [.lst (cutL xs lo hi)])
    | some (.rol xs) => some (.loc S.length, S ++ [.lst (cutL xs lo hi)])
    | _ => none
  | _ => none
theorem Rps.cut {K : PySem.W.Frag} {μ : List Addr} {H : Hp} {xs : List PV} {vs : List V} (r : Rps K μ H xs vs) (lo hi : Option Int) : Rps K μ H (cutL xs lo hi) (cutV vs lo hi) := by
  unfold cutL cutV
  rw [← r.length]
  exact (r.drop _).take _
end
end Ev


/-! Ev: slices, calls. -/
namespace EvT
open PySem PySem.Spec PyProof.Rows L2
variable {prog : Program} {w : World} {A : Around} {E : Value → Shared → Prop} {s : Shared}
theorem pickRev (xs : Array Value) : ((List.range xs.size).filterMap fun (m : Nat) => xs[(((xs.size : Int) - 1) + (m : Int) * (-1)).toNat]?).toArray = xs.toList.reverse.toArray := by
  have h : ∀ (l : List Value) (k : Nat), k ≤ l.length → ((List.range k).filterMap fun (m : Nat) => l[(((l.length : Int) - 1) + (m : Int) * (-1)).toNat]?) = (l.drop (l.length - k)).reverse := by
    intro l k
    induction k with
    | zero => intro _; simp
    | succ k ih =>
      intro hk
      rw [List.range_succ, List.filterMap_append, ih (by omega)]
      have e : (((l.length : Int) - 1) + (k : Int) * (-1)).toNat = l.length - (k + 1) := by omega
      have e2 : l.drop (l.length - (k + 1)) = l[l.length - (k + 1)]'(by omega) :: l.drop (l.length - k) := by
        rw [List.drop_eq_getElem_cons (by omega)]
        congr 1
        congr 1
        omega
      rw [e2, List.reverse_cons]
      congr 1
      simp only [List.filterMap_cons, List.filterMap_nil]
      rw [e, List.getElem?_eq_getElem (by omega)]
  have := h xs.toList xs.size (by simp)
  simp only [Array.length_toList, Array.getElem?_toList, Nat.sub_self, List.drop_zero] at this
  rw [this]
theorem getItem_tuple_rev {t sl : Addr} {items : Array Value} {vl vu vk : Value} {Q : Value → Shared → Prop} (ht : IsTup s.heap t items) (hs : s.heap.IsSliceOf sl vl vu vk) (pl : IsPart vl none) (pu : IsPart vu none) (pk : IsPart vk (some (-1)))
    (h : Q (.ref s.heap.objs.size) { s with heap := s.heap.push { cls := .type "tuple", data := .seq items.toList.reverse.toArray } })
    (hsz : items.size ≤ sizeLine) : wpAny (model prog w) A (getItem (.ref t) (.ref sl)) Q E s := by
  have htake : sizeOk (.seq items.toList.reverse.toArray) := by
    show items.toList.reverse.toArray.size ≤ sizeLine
    rw [List.size_toArray, List.length_reverse, Array.length_toList]
    omega
  obtain ⟨os, hos, hcs, hds⟩ := id hs
  have hTs : s.TypeIs (.ref sl) "slice" := ⟨os, hos, hcs⟩
  unfold getItem
  try with_reducible refine wpAny_holding ?_
  first | refine wpAny_bind (wpAny_pure ?_) | skip
  refine wpAny_bind (wpAny_sequenceKey ht.typeIs (by decide) ?_)
  refine wpAny_bind (wpAny_callSpecial?_slot (name := Str.ofString "__getitem__") ht.typeIs PyProof.Rows.slot_tuple_getitem
    (wpAny_call_entry PyProof.Rows.slot_tuple_getitem ht.typeIs entry_tuple_getitem ?_ (args_tuple_getitem _ _)))
  show wpAny _ _ (Builtin.Tuple.tupleItemsOf (.ref t) >>= _) _ _ s
  refine wpAny_bind (PyProof.Rows.tupleItemsOf_ ht ?_)
  refine wpAny_bind (wpAny_typeOf hTs ?_)
  rw [if_pos (by decide)]
  have happ : ∀ {Q : Int × Int × Nat → Shared → Prop}, Q ((items.size : Int) - 1, -1, items.size) s → wpAny (model prog w) A.in1 (Builtin.Slice.sliceApplied (.ref sl) (pure (items.size : Int))) Q E s := by
    intro Q h
    unfold Builtin.Slice.sliceApplied Builtin.Slice.sliceFields
    refine wpAny_bind (wpAny_bind (wpAny_field hos hds (x := vl) rfl (wpAny_bind (wpAny_field hos hds (x := vu) rfl (wpAny_bind (wpAny_field hos hds (x := vk) rfl (wpAny_pure ?_)))))))
    cases pk with
    | int _ tk =>
      refine wpAny_bind (HT.slicePart_ (.int (-1) tk) ?_)
      show wpAny _ _ (if ((-1 : Int) == 0) = true then _ else _) _ _ s
      rw [if_neg (by decide)]
      refine wpAny_bind (HT.slicePart_ pl (wpAny_bind (HT.slicePart_ pu (wpAny_bind (wpAny_pure ?_)))))
      show wpAny _ _ (match Builtin.Slice.sliceAdjust none none (-1) (items.size : Int) with | (lo, hi) => pure (lo, (-1 : Int), Builtin.Slice.slicePlaces lo hi (-1))) _ _ s
      have e1 : Builtin.Slice.sliceAdjust none none (-1) (items.size : Int) = ((items.size : Int) - 1, -1) := by
        unfold Builtin.Slice.sliceAdjust
        simp
      rw [e1]
      have e2 : Builtin.Slice.slicePlaces ((items.size : Int) - 1) (-1) (-1) = items.size := by
        unfold Builtin.Slice.slicePlaces
        have h1 : ¬ ((-1 : Int) > 0) := by omega
        have h2 : - (-1 : Int) = 1 := by decide
        simp only [h1, if_false, h2, Int.ediv_one]
        split <;> omega
      show wpAny _ _ (pure ((items.size : Int) - 1, (-1 : Int), Builtin.Slice.slicePlaces ((items.size : Int) - 1) (-1) (-1))) _ _ s
      rw [e2]
      exact wpAny_pure h
  refine wpAny_bind (happ ?_)
  have hno : ¬ ((((items.size : Int) - 1) == 0 && (-1 : Int) == 1 && items.size == items.size) = true) := by
    intro q
    rw [Bool.and_eq_true, Bool.and_eq_true] at q
    exact absurd q.1.2 (by decide)
  show wpAny _ _ (if (((items.size : Int) - 1) == 0 && (-1 : Int) == 1 && items.size == items.size) = true then _ else _) _ _ s
  rw [if_neg hno, pickRev]
  first
    | exact wpAny_bind (m := Builtin.Tuple.tupleExact _) (wpAny_newObj_type (wpAny_pure ⟨_, rfl, wpAny_pure h⟩) htake)
    | exact wpAny_bind (m := Builtin.Tuple.tupleExact _) (wpAny_newObj_type (wpAny_bind (wpAny_pure (wpAny_pure ⟨_, rfl, wpAny_pure h⟩))) htake)
    | exact wpAny_bind (wpAny_bind (m := Builtin.Tuple.tupleExact _) (wpAny_newObj_type (wpAny_pure (wpAny_pure ⟨_, rfl, wpAny_pure h⟩)) htake))
    | exact wpAny_bind (wpAny_bind (m := Builtin.Tuple.tupleExact _) (wpAny_newObj_type (wpAny_pure ⟨_, rfl, wpAny_pure h⟩) htake))
end EvT
namespace Ev
open PySem PySem.Spec PyProof.Rows L2
/-- xs[::-1] of a list or a tuple -/
def tRevA (K : PySem.W.Frag) (te : TE) : TE := fun σ H Q => te σ H fun x H1 => ∃ a xs, x = .ref a ∧ ((SqL K H1 a xs ∧ ∀ p, H1 p = none → Q (.ref p) (upd H1 p (.lst xs.reverse))) ∨ (SqT K H1 a xs ∧ ∀ p, H1 p = none → Q (.ref p) (upd H1 p (.tup xs.reverse))))
theorem pe_revA {X : Cx} {e : Expr} {te : TE} {k : Nat} {p1 p2 p3 pos : Pos} (he : PE X e te) : PE X (.Subscript e (.Slice none none (some (.UnaryOp .USub (.Constant (.int 1) k p1) p2)) p3) pos) (tRevA X.K te) := by
  refine ⟨fun pins s σ H Q I h => ?_⟩
  refine Subscript_ (thn (he.run pins s σ H _ I h) fun v s1 ⟨x, H1, I1, r1, q1⟩ => ?_)
  obtain ⟨a, xs, ex, q⟩ := q1
  subst ex
  cases r1
  have hst : PO X (some (.UnaryOp .USub (.Constant (.int 1) k p1) p2)) (tPart (tUn (rU fun i => .int (-i)) (tC (.int 1)))) := po_some (pe_un un_neg pe_int)
  refine wpAny_Slice (thn (po_none.run pins s1 σ H1 (fun o H2 => o = none ∧ H2 = H1) I1 ⟨rfl, rfl⟩) fun vl s2 ⟨l, H2, I2, pl, el, e2⟩ => ?_)
  subst el e2
  refine thn (po_none.run pins s2 σ H2 (fun o H3 => o = none ∧ H3 = H2) I2 ⟨rfl, rfl⟩) fun vu s3 ⟨u, H3, I3, pu, eu, e3⟩ => ?_
  subst eu e3
  refine thn (hst.run pins s3 σ H3 (fun o H4 => o = some (-1) ∧ H4 = H3) I3 ⟨1, rfl, -1, rfl, rfl, rfl⟩) fun vs s4 ⟨o, H4, I4, ps, eo, e4⟩ => ?_
  subst eo e4
  have I5 : Inv X pins σ H4 { s4 with heap := s4.heap.push { cls := .type "slice", data := .fields #[vl, vu, vs] } } := I4.kept (t' := s4.toks) fun b ob q => Heap.get?_push_of_some _ q
  show wpAny (model X.prog X.w) X.A (subscriptTail e (.Slice none none (some (.UnaryOp .USub (.Constant (.int 1) k p1) p2)) p3) (.ref a) (.ref s4.heap.objs.size)) (EP X pins σ Q) X.xe { s4 with heap := s4.heap.push { cls := .type "slice", data := .fields #[vl, vu, vs] } }
  rcases q with ⟨hx, q⟩ | ⟨hx, q⟩
  · obtain ⟨its, r, ht, hz⟩ := I5.list hx
    have hlen := r.length
    refine tail_any (ops := [.ref a, .ref s4.heap.objs.size]) ht.isList.typeIs (PySem.slot_list_getitem.lookup) ?_ (by with_unfolding_all rfl)
    refine wpAny_getItem_list_slice ht.isList (Heap.IsSliceOf.new _ vl vu vs) pl pu ps (by decide) ?_ (by rw [List.size_toArray]; omega)
    rw [PySem.W.krv_pick]
    refine ⟨.ref _, _, I5.laid (t' := s4.toks) (o := .lst xs.reverse) (fun b ob q => Heap.get?_push_of_some _ q) (Nat.le_refl _) ?_, rfl, q _ (I5.hok.fresh (Nat.le_refl _))⟩
    exact ⟨by rw [List.length_reverse]; exact hz, _, 0, r.reverse, Heap.get?_push_size _ rfl⟩
  · obtain ⟨its, r, ht, hz⟩ := I5.tuple hx
    have hlen := r.length
    refine tail_any (ops := [.ref a, .ref s4.heap.objs.size]) ht.typeIs (PyProof.Rows.slot_tuple_getitem.lookup) ?_ (by with_unfolding_all rfl)
    refine EvT.getItem_tuple_rev ht (Heap.IsSliceOf.new _ vl vu vs) pl pu ps ?_ (by rw [List.size_toArray]; omega)
    refine ⟨.ref _, _, I5.laid (t' := s4.toks) (o := .tup xs.reverse) (fun b ob q => Heap.get?_push_of_some _ q) (Nat.le_refl _) ?_, rfl, q _ (I5.hok.fresh (Nat.le_refl _))⟩
    exact ⟨by rw [List.length_reverse]; exact hz, _, r.reverse, ⟨_, Heap.get?_push_size _ rfl, rfl, 0, rfl⟩⟩
section
variable {X : Cx} {g : G} {W : WX} {pos p2 : Pos} {a b c : Expr} {fa fb fc : Env' → Store → R PV} {es : List Expr} {fs : Env' → Store → R (List PV)}
def revP : PV → Store → Option (PV × Store)
  | .tup xs, S => some (.tup xs.reverse, S)
  | .loc l, S => match S[l]? with
    | some (.lst xs) => some (.loc S.length, S ++ [.lst xs.reverse])
    | some (.rol xs) => some (.loc S.length, S ++ [.lst xs.reverse])
    | _ => none
  | _, _ => none
theorem se_rev {k : Nat} {p1 p3 : Pos} (hK : X.K = g.K) (ha : SE X g W a fa) : SE X g W (.Subscript a (.Slice none none (some (.UnaryOp .USub (.Constant (.int 1) k p1) p2)) p3) pos) (eUn revP fa) :=
  PEimp (pe_revA ha) fun σ H Q h => one h fun μ v S x H2 rs rv q => by
    obtain ⟨z, S', e, k⟩ := Post.ofO q
    unfold revP at e
    rw [hK]
    split at e
    · cases e
      cases rv with
      | tup h1 r1 => exact ⟨_, _, rfl, .inr ⟨h1, fun p hp => k μ _ _ .refl (.upd (.none hp)) (rs.laid hp) (.newT hp r1.rev)⟩⟩
    · split at e
      · rename_i e1
        cases e
        cases rv with
        | loc h1 =>
          obtain ⟨vs, q1, r1⟩ := rs.lst h1 e1
          exact ⟨_, vs, rfl, .inl ⟨.inl (.inl q1), fun p hp => k _ _ _ ⟨[p], rfl⟩ (.upd (.none hp)) (rs.newL hp r1.rev) (Rp.atEnd rs p _)⟩⟩
      · rename_i e1
        cases e
        cases rv with
        | loc h1 =>
          obtain ⟨vs, q1, r1⟩ := rs.obj _ _ _ h1 e1
          exact ⟨_, vs, rfl, .inl ⟨q1.sq, fun p hp => k _ _ _ ⟨[p], rfl⟩ (.upd (.none hp)) (rs.newL hp r1.rev) (Rp.atEnd rs p _)⟩⟩
      · cases e
    · cases e
/-! ### slices -/
abbrev EO := Env' → Store → R (Option Int)
def oNo : EO := fun _ S => .ok none S
def oSo (f : Env' → Store → R PV) : EO := fun ρ S => (f ρ S).bind fun v S1 => match v with
  | .int i => .ok (some i) S1
  | _ => .bad
def tEvO (g : G) (W : WX) (f : EO) : TO := fun σ H Q => ∃ μ ρ S, RE g.K μ H ρ σ ∧ RS g μ S H ∧ Post g (wx g W σ) μ H (fun _ _ a b => a = b) (f ρ S) Q
abbrev SOp (X : Cx) (g : G) (W : WX) (e : Option Expr) (f : EO) : Prop := PO X e (tEvO g W f)
theorem so_no : SOp X g W none oNo := ⟨fun pins s σ H Q I ⟨μ, ρ, S, re, rs, p⟩ => po_none.run pins s σ H Q I (Post.here p rs rfl)⟩
theorem so_so (ha : SE X g W a fa) : SOp X g W (some a) (oSo fa) := ⟨fun pins s σ H Q I ⟨μ, ρ, S, re, rs, p⟩ => (po_some ha).run pins s σ H Q I (by
  refine ⟨μ, ρ, S, re, rs, (Post.bind p).imp fun x H1 ⟨μ1, v, S1, p1, l1, rs1, rv, q⟩ => ?_⟩
  split at q
  · cases rv; exact ⟨_, rfl, Post.here q rs1 rfl⟩
  · exact q.elim)⟩
def eSl (a : Env' → Store → R PV) (lo hi : EO) : Env' → Store → R PV := fun ρ S => (a ρ S).bind fun v S1 => (lo ρ S1).bind fun l S2 => (hi ρ S2).bind fun h S3 => R.ofO (slP v l h S3)
theorem cutS_of (s : List Nat) (lo hi : Option Int) : cutS ⟨s.toArray⟩ lo hi = ⟨(cutL s lo hi).toArray⟩ := by
  unfold cutS cutL
  rw [slen]
def rSl (g : G) : V → Option Int → Option Int → Hp → VK → Prop := fun x lo hi H Q => ∃ μ v S z S', RS g μ S H ∧ Rp g.K μ H v x ∧ slP v lo hi S = some (z, S') ∧
  ∀ μ' x' H', Pre μ μ' → Le g.K H H' → RS g μ' S' H' → Rp g.K μ' H' z x' → Q x' H'
theorem slV (hK : X.K = g.K) : SlR X (rSl g) := by
  intro pins s σ H x v vl vu lo hi sl Q I rx hs pl pu h
  obtain ⟨μ, a, S, z, S', rs, ra, e, k⟩ := h
  unfold slP at e
  split at e
  · rename_i xs
    cases e
    cases ra with
    | tup h1 r1 =>
      have rc := r1.cut lo hi
      refine sl_tupA pins s σ H _ v vl vu lo hi sl Q I rx hs pl pu ⟨_, _, rfl, by rw [hK]; exact h1, fun hw => ?_, fun hw p hp => ?_⟩
      · refine k μ _ H .refl .refl rs ?_
        have e : cutL xs lo hi = xs := by
          unfold cutL
          rw [r1.length, hw.1, hw.2, Nat.sub_zero, List.drop_zero, ← r1.length, List.take_length]
        rw [e]
        exact .tup h1 r1
      · exact k μ _ _ .refl (.upd (.none hp)) (rs.laid hp) (.newT hp rc)
  · split at e
    · rename_i hl
      cases e
      cases ra
      refine sl_str pins s σ H _ v vl vu lo hi sl Q I rx hs pl pu ⟨_, rfl, by rw [slen, line_eq]; exact hl, ?_⟩
      rw [cutS_of]
      exact k μ _ H .refl .refl rs (.str _)
    · cases e
  · split at e
    · rename_i e1
      cases e
      cases ra with
      | loc h1 =>
        obtain ⟨vs, q1, r1⟩ := rs.lst h1 e1
        exact sl_list pins s σ H _ v vl vu lo hi sl Q I rx hs pl pu ⟨_, _, rfl, .inl (.inl q1), fun p hp => k _ _ _ ⟨[p], rfl⟩ (.upd (.none hp)) (rs.newL hp (r1.cut lo hi)) (Rp.atEnd rs p _)⟩
    · rename_i e1
      cases e
      cases ra with
      | loc h1 =>
        obtain ⟨vs, q1, r1⟩ := rs.obj _ _ _ h1 e1
        refine sl_list pins s σ H _ v vl vu lo hi sl Q I rx hs pl pu ⟨_, vs, rfl, ?_, fun p hp => k _ _ _ ⟨[p], rfl⟩ (.upd (.none hp)) (rs.newL hp (r1.cut lo hi)) (Rp.atEnd rs p _)⟩
        rw [hK]
        exact q1.sq
    · cases e
  · cases e
theorem se_sl {lo hi : Option Expr} {fl fh : EO} (hK : X.K = g.K) (ha : SE X g W a fa) (hl : SOp X g W lo fl) (hh : SOp X g W hi fh) : SE X g W (.Subscript a (.Slice lo hi none p2) pos) (eSl fa fl fh) :=
  PEimp (pe_slice (slV hK) ha hl hh) fun σ H Q h => by
    obtain ⟨μ, ρ, S, re, rs, p⟩ := h
    refine ⟨μ, ρ, S, re, rs, (Post.bind p).imp fun x H1 ⟨μ1, v, S1, p1, l1, rs1, rv, q⟩ => ?_⟩
    refine ⟨μ1, ρ, S1, re.mono p1 l1, rs1, (Post.bind (rel := fun _ _ a b => a = b) q).imp fun lo H2 ⟨μ2, l, S2, p2, l2, rs2, rl, q2⟩ => ?_⟩
    subst rl
    refine ⟨μ2, ρ, S2, (re.mono p1 l1).mono p2 l2, rs2, (Post.bind (rel := fun _ _ a b => a = b) q2).imp fun hi H3 ⟨μ3, h, S3, p3, l3, rs3, rh, q3⟩ => ?_⟩
    subst rh
    obtain ⟨z, S', e, k⟩ := Post.ofO q3
    exact ⟨μ3, v, S3, z, S', rs3, (rv.mono p2 l2).mono p3 l3, e, k⟩

/-! ### built-ins -/
abbrev AOp := List PV → Store → Option (PV × Store)
def eCl (f : AOp) (a : Env' → Store → R (List PV)) : Env' → Store → R PV := fun ρ S => (a ρ S).bind fun vs S1 => R.ofO (f vs S1)
theorem rVs_of {f : AOp} {σ : St} {μ : List Addr} {H : Hp} {vs : List PV} {xs : List V} {S : Store} {Q : VK} (rs : RS g μ S H) (rv : Rps g.K μ H vs xs) (q : PostE g W σ μ H (R.ofO (f vs S)) Q) : rVs g f xs H Q := by
  obtain ⟨z, S', e, k⟩ := Post.ofO q
  exact ⟨μ, vs, S, z, S', rs, rv, e, k⟩
variable {x : Str} {id T : String} {f : AOp} {p : Pos}
theorem se_callB (hc : CallR X (.builtin id) (rVs g f)) (hg : Gl X x) (hm : X.mg x = none) (hv : bootBuiltins x = some (.builtin id)) (ha : SA X g W (a :: es) fs) (hn : x ≠ "__name__" := by decide) (hdb : (x == ("__debug__" : Str)) = false := by decide)
    (he : starEach (a :: es) X.env = (false, eval a X.env) :: starEach es X.env := by rfl) (hpl : (backTo pos (starEach es X.env)).any (·.1) = false := by rfl) : SE X g W (.Call (.Name x p) (a :: es) [] pos) (eCl f fs) :=
  PEimp (pe_callB hc hg hm hv ha hn hdb he hpl) fun σ H Q h => aOne h fun μ vs S xs H2 rs rv q => rVs_of rs rv q
theorem se_callTy (hc : CallR X (.type T) (rVs g f)) (hg : Gl X x) (hm : X.mg x = none) (hv : bootBuiltins x = some (.type T)) (ha : SA X g W (a :: es) fs) (hn : x ≠ "__name__" := by decide) (hdb : (x == ("__debug__" : Str)) = false := by decide)
    (he : starEach (a :: es) X.env = (false, eval a X.env) :: starEach es X.env := by rfl) (hpl : (backTo pos (starEach es X.env)).any (·.1) = false := by rfl) : SE X g W (.Call (.Name x p) (a :: es) [] pos) (eCl f fs) :=
  PEimp (pe_callTy hc hg hm hv ha hn hdb he hpl) fun σ H Q h => aOne h fun μ vs S xs H2 rs rv q => rVs_of rs rv q
def lenP : AOp
  | [.str s], S => if s.length ≤ LINE then some (.int s.length, S) else none
  | [.tup xs], S => some (.int xs.length, S)
  | [.loc l], S => match S[l]? with
    | some (.lst xs) => some (.int xs.length, S)
    | some (.rol xs) => some (.int xs.length, S)
    | some (.dic xs) => some (.int xs.length, S)
    | _ => none
  | _, _ => none
theorem Rps.one {K : PySem.W.Frag} {μ : List Addr} {H : Hp} {v : PV} {xs : List V} (r : Rps K μ H [v] xs) : ∃ x, xs = [x] ∧ Rp K μ H v x := by
  cases r with
  | cons a b => cases b; exact ⟨_, rfl, a⟩
theorem Rps.two {K : PySem.W.Frag} {μ : List Addr} {H : Hp} {v w : PV} {xs : List V} (r : Rps K μ H [v, w] xs) : ∃ x y, xs = [x, y] ∧ Rp K μ H v x ∧ Rp K μ H w y := by
  cases r with
  | cons a b => cases b with
    | cons c d => cases d; exact ⟨_, _, rfl, a, c⟩
theorem Rkv.length {K : PySem.W.Frag} {μ : List Addr} {H : Hp} : ∀ {xs : List (PV × PV)} {vs : List (Key × V)}, Rkv K μ H xs vs → xs.length = vs.length
  | _, _, .nil => rfl
  | _, _, .cons _ _ r => congrArg Nat.succ (Rkv.length r)
theorem callLen (hK : X.K = g.K) : CallR X (.builtin "len") (rVs g lenP) := by
  intro pins s σ H xs us Q I r h
  obtain ⟨μ, vs, S, z, S', rs, rv, e, k⟩ := h
  unfold lenP at e
  split at e
  · split at e
    · rename_i hl
      cases e
      obtain ⟨x, rfl, rx⟩ := rv.one
      cases rx
      refine call_len pins s σ H _ us Q I r ⟨_, _, rfl, ⟨by rw [slen, line_eq]; exact hl, rfl⟩, ?_⟩
      rw [slen]
      exact k μ _ H .refl .refl rs (.int _)
    · cases e
  · cases e
    obtain ⟨x, rfl, rx⟩ := rv.one
    cases rx with
    | tup h1 r1 =>
      refine call_len pins s σ H _ us Q I r ⟨_, _, rfl, .inr ⟨_, by rw [hK]; exact h1, rfl⟩, ?_⟩
      rw [← r1.length]
      exact k μ _ H .refl .refl rs (.int _)
  · split at e
    · rename_i e1
      cases e
      obtain ⟨x, rfl, rx⟩ := rv.one
      cases rx with
      | loc h1 =>
        obtain ⟨ws, q1, r1⟩ := rs.lst h1 e1
        refine call_len pins s σ H _ us Q I r ⟨_, _, rfl, .inl ⟨_, .inl (.inl q1), rfl⟩, ?_⟩
        rw [← r1.length]
        exact k μ _ H .refl .refl rs (.int _)
    · rename_i e1
      cases e
      obtain ⟨x, rfl, rx⟩ := rv.one
      cases rx with
      | loc h1 =>
        obtain ⟨ws, q1, r1⟩ := rs.obj _ _ _ h1 e1
        refine call_len pins s σ H _ us Q I r ⟨_, ws.length, rfl, .inl ⟨ws, by rw [hK]; exact q1.sq, rfl⟩, ?_⟩
        rw [← r1.length]
        exact k μ _ H .refl .refl rs (.int _)
    · rename_i e1
      cases e
      obtain ⟨x, rfl, rx⟩ := rv.one
      cases rx with
      | loc h1 =>
        obtain ⟨ws, q1, r1⟩ := rs.dic h1 e1
        refine call_lenD pins s σ H _ us Q I r ⟨_, ws, rfl, q1, ?_⟩
        rw [← r1.length]
        exact k μ _ H .refl .refl rs (.int _)
    · cases e
  · cases e
def intP : AOp
  | [.int i], S => some (.int i, S)
  | [.bl b], S => some (.int (if b then 1 else 0), S)
  | [.str s], S => if s.length ≤ 640 then match PySem.intText? ⟨s.toArray⟩ with
      | some n => some (.int n, S)
      | none => none
    else none
  | _, _ => none
theorem callInt : CallR X (.type "int") (rVs g intP) := by
  intro pins s σ H xs us Q I r h
  obtain ⟨μ, vs, S, z, S', rs, rv, e, k⟩ := h
  unfold intP at e
  split at e
  · cases e
    obtain ⟨x, rfl, rx⟩ := rv.one
    cases rx
    exact call_int1 pins s σ H _ us Q I r (.inl ⟨_, rfl, k μ _ H .refl .refl rs (.int _)⟩)
  · cases e
    obtain ⟨x, rfl, rx⟩ := rv.one
    cases rx
    exact call_int1 pins s σ H _ us Q I r (.inr ⟨_, rfl, k μ _ H .refl .refl rs (.int _)⟩)
  · split at e
    · rename_i hl
      split at e
      · rename_i n e1
        cases e
        obtain ⟨x, rfl, rx⟩ := rv.one
        cases rx
        exact call_int_str pins s σ H _ us Q I r ⟨_, n, rfl, e1, by rw [slen]; exact hl, k μ _ H .refl .refl rs (.int _)⟩
      · cases e
    · cases e
  · cases e
def istr (i : Int) : List Nat := (Str.ofString (toString i)).cps.toList
def strP : AOp
  | [.int i], S => if i.natAbs.log2 < 1920 then some (.str (istr i), S) else none
  | [.str s], S => some (.str s, S)
  | _, _ => none
theorem callStr : CallR X (.type "str") (rVs g strP) := by
  intro pins s σ H xs us Q I r h
  obtain ⟨μ, vs, S, z, S', rs, rv, e, k⟩ := h
  unfold strP at e
  split at e
  · split at e
    · rename_i hl
      cases e
      obtain ⟨x, rfl, rx⟩ := rv.one
      cases rx
      refine call_str_int pins s σ H _ us Q I r ⟨_, rfl, hl, ?_⟩
      have := k μ (.str ⟨(istr _).toArray⟩) H .refl .refl rs (.str _)
      rw [show (⟨(istr _).toArray⟩ : Str) = Str.ofString (toString _) from (sof _).symm] at this
      exact this
    · cases e
  · cases e
    obtain ⟨x, rfl, rx⟩ := rv.one
    cases rx
    exact SkE.call_str_str pins s σ H _ us Q I r ⟨_, rfl, k μ _ H .refl .refl rs (.str _)⟩
  · cases e
def absP : AOp
  | [.int i], S => some (.int (if i < 0 then -i else i), S)
  | _, _ => none
theorem callAbs : CallR X (.builtin "abs") (rVs g absP) := by
  intro pins s σ H xs us Q I r h
  obtain ⟨μ, vs, S, z, S', rs, rv, e, k⟩ := h
  unfold absP at e
  split at e
  · cases e
    obtain ⟨x, rfl, rx⟩ := rv.one
    cases rx
    exact call_abs pins s σ H _ us Q I r ⟨_, rfl, k μ _ H .refl .refl rs (.int _)⟩
  · cases e
def maxP : AOp
  | [.int i, .int j], S => some (.int (if j > i then j else i), S)
  | _, _ => none
theorem callMax (hc : X.calm = true) : CallR X (.builtin "max") (rVs g maxP) := by
  intro pins s σ H xs us Q I r h
  obtain ⟨μ, vs, S, z, S', rs, rv, e, k⟩ := h
  unfold maxP at e
  split at e
  · cases e
    obtain ⟨x, y, rfl, rx, ry⟩ := rv.two
    cases rx; cases ry
    exact call_max2 hc pins s σ H _ us Q I r ⟨_, _, rfl, k μ _ H .refl .refl rs (.int _)⟩
  · cases e
/-- tuple(x), x a list or a tuple -/
def tupP : AOp
  | [.tup xs], S => some (.tup xs, S)
  | [.loc l], S => match S[l]? with
    | some (.lst xs) => some (.tup xs, S)
    | some (.rol xs) => some (.tup xs, S)
    | _ => none
  | _, _ => none
theorem callTup (hK : X.K = g.K) : CallR X (.type "tuple") (rVs g tupP) := by
  intro pins s σ H xs us Q I r h
  obtain ⟨μ, vs, S, z, S', rs, rv, e, k⟩ := h
  unfold tupP at e
  split at e
  · cases e
    obtain ⟨x, rfl, rx⟩ := rv.one
    cases rx with
    | tup h1 r1 => exact call_tuple_of pins s σ H _ us Q I r ⟨_, _, rfl, .inr ⟨by rw [hK]; exact h1, k μ _ H .refl .refl rs (.tup h1 r1)⟩⟩
  · split at e
    · rename_i e1
      cases e
      obtain ⟨x, rfl, rx⟩ := rv.one
      cases rx with
      | loc h1 =>
        obtain ⟨ws, q1, r1⟩ := rs.lst h1 e1
        exact call_tuple_of pins s σ H _ us Q I r ⟨_, _, rfl, .inl ⟨.inl (.inl q1), fun p hp => k μ _ _ .refl (.upd (.none hp)) (rs.laid hp) (.newT hp r1)⟩⟩
    · rename_i e1
      cases e
      obtain ⟨x, rfl, rx⟩ := rv.one
      cases rx with
      | loc h1 =>
        obtain ⟨ws, q1, r1⟩ := rs.obj _ _ _ h1 e1
        exact call_tuple_of pins s σ H _ us Q I r ⟨_, ws, rfl, .inl ⟨by rw [hK]; exact q1.sq, fun p hp => k μ _ _ .refl (.upd (.none hp)) (rs.laid hp) (.newT hp r1)⟩⟩
    · cases e
  · cases e
/-- list(x), x a list, a tuple or a dict -/
def lstP : AOp
  | [.tup xs], S => some (.loc S.length, S ++ [.lst xs])
  | [.loc l], S => match S[l]? with
    | some (.lst xs) => some (.loc S.length, S ++ [.lst xs])
    | some (.rol xs) => some (.loc S.length, S ++ [.lst xs])
    | some (.dic kvs) => some (.loc S.length, S ++ [.lst (kvs.map (·.1))])
    | _ => none
  | _, _ => none
theorem Rkv.keys {K : PySem.W.Frag} {μ : List Addr} {H : Hp} : ∀ {xs : List (PV × PV)} {vs : List (Key × V)}, Rkv K μ H xs vs → Rps K μ H (xs.map (·.1)) (vs.map fun kv => kV kv.1)
  | _, _, .nil => .nil
  | _, _, .cons hk _ r => .cons (by cases hk; exact .int _; exact .str _) (Rkv.keys r)
theorem callLst (hK : X.K = g.K) (hc : X.calm = true) : CallR X (.type "list") (rVs g lstP) := by
  intro pins s σ H xs us Q I r h
  obtain ⟨μ, vs, S, z, S', rs, rv, e, k⟩ := h
  unfold lstP at e
  split at e
  · cases e
    obtain ⟨x, rfl, rx⟩ := rv.one
    cases rx with
    | tup h1 r1 => exact call_list_of pins s σ H _ us Q I r ⟨_, _, rfl, .inr (by rw [hK]; exact h1), fun p hp => k _ _ _ ⟨[p], rfl⟩ (.upd (.none hp)) (rs.newL hp r1) (Rp.atEnd rs p _)⟩
  · split at e
    · rename_i e1
      cases e
      obtain ⟨x, rfl, rx⟩ := rv.one
      cases rx with
      | loc h1 =>
        obtain ⟨ws, q1, r1⟩ := rs.lst h1 e1
        exact call_list_of pins s σ H _ us Q I r ⟨_, _, rfl, .inl (.inl (.inl q1)), fun p hp => k _ _ _ ⟨[p], rfl⟩ (.upd (.none hp)) (rs.newL hp r1) (Rp.atEnd rs p _)⟩
    · rename_i e1
      cases e
      obtain ⟨x, rfl, rx⟩ := rv.one
      cases rx with
      | loc h1 =>
        obtain ⟨ws, q1, r1⟩ := rs.obj _ _ _ h1 e1
        exact call_list_of pins s σ H _ us Q I r ⟨_, ws, rfl, .inl (by rw [hK]; exact q1.sq), fun p hp => k _ _ _ ⟨[p], rfl⟩ (.upd (.none hp)) (rs.newL hp r1) (Rp.atEnd rs p _)⟩
    · rename_i e1
      cases e
      obtain ⟨x, rfl, rx⟩ := rv.one
      cases rx with
      | loc h1 =>
        obtain ⟨ws, q1, r1⟩ := rs.dic h1 e1
        exact call_list_dK hc pins s σ H _ us Q I r ⟨_, ws, rfl, q1, fun p hp => k _ _ _ ⟨[p], rfl⟩ (.upd (.none hp)) (rs.newL hp r1.keys) (Rp.atEnd rs p _)⟩
    · cases e
  · cases e

/-! ### isinstance -/
def tyP (S : Store) : PV → Option String
  | .non => some "NoneType"
  | .bl _ => some "bool"
  | .int _ => some "int"
  | .str _ => some "str"
  | .tup _ => some "tuple"
  | .loc l => match S[l]? with
    | some (.lst _) => some "list"
    | some (.dic _) => some "dict"
    | _ => none
/-- the answer for built-in types -/
def isB (t : String) (cs : List String) : Bool := cs.any fun c => t == c || (t == "bool" && c == "int")
def eIs (cs : List String) (a : Env' → Store → R PV) : Env' → Store → R PV := fun ρ S => (a ρ S).bind fun v S1 => match tyP S1 v with
  | some t => .ok (.bl (isB t cs)) S1
  | none => .bad
theorem tyV_of (hK : X.K = g.K) {μ : List Addr} {S : Store} {H : Hp} {v : PV} {x : V} {t : String} (rs : RS g μ S H) (r : Rp g.K μ H v x) (e : tyP S v = some t) : TyX X.K H x (.type t) := by
  cases r with
  | non => cases e; exact .base .non
  | bl b => cases e; exact .base (.bl b)
  | int i => cases e; exact .base (.int i)
  | str s => cases e; exact .base (.str _)
  | tup h r =>
    cases e
    rcases h with (h | ⟨o, h⟩) | ⟨o, its, n, hk, hc, _⟩
    · exact .base (.tup h)
    · exact .fTuple h
    · exact .kTuple (by rw [hK]; exact hk) hc
  | loc h =>
    simp only [tyP] at e
    split at e
    · rename_i e1
      cases e
      obtain ⟨ws, q1, r1⟩ := rs.lst h e1
      exact .base (.lst q1)
    · rename_i e1
      cases e
      obtain ⟨ws, q1, r1⟩ := rs.dic h e1
      exact .base (.dK q1)
    · cases e
/-- the type names that occur -/
def knownT (c : String) : Bool := ["str", "int", "tuple", "list", "dict", "bool"].contains c
theorem kit_known (K : PySem.W.Frag) {t c : String} (ht : t ∈ ["NoneType", "bool", "int", "str", "tuple", "list", "dict"]) (hc : c ∈ ["str", "int", "tuple", "list", "dict", "bool"]) : PySem.W.kitOne K (.type t) (.type c) = some (t == c || (t == "bool" && c == "int")) := by
  have all : (["NoneType", "bool", "int", "str", "tuple", "list", "dict"].all fun t => ["str", "int", "tuple", "list", "dict", "bool"].all fun c => decide (kitB t c = some (t == c || (t == "bool" && c == "int")))) = true := by decide +kernel
  have h1 := List.all_eq_true.mp all t ht
  have h2 := List.all_eq_true.mp h1 c hc
  exact kit_ty (of_decide_eq_true h2)
theorem tyP_known {S : Store} {v : PV} {t : String} (e : tyP S v = some t) : t ∈ ["NoneType", "bool", "int", "str", "tuple", "list", "dict"] := by
  cases v <;> simp only [tyP] at e
  case loc l =>
    split at e <;> first | (cases e; decide) | cases e
  all_goals (cases e; decide)
/-- isinstance(a, T) -/
theorem se_is1 {T' : Str} {pt pi : Pos} (T : String) (hK : X.K = g.K) (hT : T ∈ ["str", "int", "tuple", "list", "dict", "bool"]) (gi : Gl X "isinstance") (mi : X.mg "isinstance" = none) (gT : Gl X T') (mT : X.mg T' = none) (bT : bootBuiltins T' = some (.type T)) (nT : T' ≠ "__name__")
    (ha : SE X g W a fa) (hdT : (T' == ("__debug__" : Str)) = false := by decide)
    (he : starEach [a, .Name T' pt] X.env = (false, eval a X.env) :: starEach [.Name T' pt] X.env := by rfl) (hpl : (backTo pos (starEach [.Name T' pt] X.env)).any (·.1) = false := by rfl) :
    SE X g W (.Call (.Name "isinstance" pi) [a, .Name T' pt] [] pos) (eIs [T] fa) :=
  PEimp (pe_callB call_isi gi mi PyProof.Rows.boot_isinstance (pa_cons ha (pa_cons (pe_bltn (v := .ty T) gT mT bT rfl nT hdT) pa_nil) he) (by decide) (by decide) he hpl) fun σ H Q h => by
    refine one h fun μ v S x H2 rs rv q => ?_
    split at q
    · rename_i t e
      refine ⟨x, .ty T, .type t, .type T, _, rfl, .ty T, tyV_of hK rs rv e, kit_known _ (tyP_known e) hT, ?_⟩
      have := Post.here q rs (.bl _)
      unfold isB at this
      simpa using this
    · exact q.elim
/-- isinstance(a, (T, U)) -/
theorem se_is2 {T' U' : Str} {k : Nat} {pt pu pi pp : Pos} (T U : String) (hK : X.K = g.K) (hT : T ∈ ["str", "int", "tuple", "list", "dict", "bool"]) (hU : U ∈ ["str", "int", "tuple", "list", "dict", "bool"]) (gi : Gl X "isinstance") (mi : X.mg "isinstance" = none)
    (gT : Gl X T') (mT : X.mg T' = none) (bT : bootBuiltins T' = some (.type T)) (nT : T' ≠ "__name__") (gU : Gl X U') (mU : X.mg U' = none) (bU : bootBuiltins U' = some (.type U)) (nU : U' ≠ "__name__")
    (ha : SE X g W a fa) (hdT : (T' == ("__debug__" : Str)) = false := by decide) (hdU : (U' == ("__debug__" : Str)) = false := by decide)
    (he : starEach [a, .Tuple [.Name T' pt, .Name U' pu] k pp] X.env = (false, eval a X.env) :: starEach [.Tuple [.Name T' pt, .Name U' pu] k pp] X.env := by rfl) (hpl : (backTo pos (starEach [.Tuple [.Name T' pt, .Name U' pu] k pp] X.env)).any (·.1) = false := by rfl) :
    SE X g W (.Call (.Name "isinstance" pi) [a, .Tuple [.Name T' pt, .Name U' pu] k pp] [] pos) (eIs [T, U] fa) :=
  PEimp (pe_callB call_isiT gi mi PyProof.Rows.boot_isinstance (pa_cons ha (pa_cons (pe_tup (pa_cons (pe_bltn (v := .ty T) gT mT bT rfl nT hdT) (pa_cons (pe_bltn (v := .ty U) gU mU bU rfl nU hdU) pa_nil))) pa_nil) he) (by decide) (by decide) he hpl) fun σ H Q h => by
    refine one h fun μ v S x H2 rs rv q => ?_
    refine ⟨by show 2 ≤ sizeLine; rw [line_eq]; decide, fun p hp => ?_⟩
    split at q
    · rename_i t e
      have hl := RS.laid (o := .tup [.ty T, .ty U]) rs hp
      have ty : TyX X.K (upd H2 p (.tup [.ty T, .ty U])) x (.type t) := tyV_of hK hl (rv.mono .refl (.upd (.none hp))) e
      refine ⟨x, p, [.ty T, .ty U], .type t, [.type T, .type U], isB t [T, U], rfl, upd_same, .cons (.ty T) (.cons (.ty U) .nil), ty, ?_, q μ _ _ .refl (.upd (.none hp)) hl (.bl _)⟩
      have k1 := kit_known X.K (tyP_known e) hT
      have k2 := kit_known X.K (tyP_known e) hU
      unfold PySem.W.kitAny
      rw [k1]
      unfold isB
      simp only [List.any_cons, List.any_nil, Bool.or_false]
      cases (t == T || (t == "bool" && T == "int")) with
      | true => rfl
      | false =>
        simp only [Bool.false_or]
        unfold PySem.W.kitAny
        rw [k2]
        cases (t == U || (t == "bool" && U == "int")) <;> rfl
    · exact q.elim

/-! ### a def of the text, called -/
abbrev Oracle := Nat → List PV → Store → R PV
def spO (g : G) (c : Oracle) (i n : Nat) : Sp := fun vs H Q E => vs.length = n ∧ ∃ μ S xs, RS g μ S H ∧ Rps g.K μ H xs vs ∧ Post g (fun e _ _ H' => E (g.cv e) none H') μ H (Rp g.K) (c i xs S) Q
/-- the i-th def, known by the name x, with n parameters of which the last have the defaults dv -/
def FnF (P : Program) (w : World) (K : PySem.W.Frag) (mg : Str → Option Value) (base : Heap) (g : G) (c : Oracle) (k i : Nat) (x : Str) (n : Nat) (dv : List PV) : Prop :=
  ∃ (f : Addr) (fd : FuncData) (ps : List Str) (ds : List Value) (dvs : List V), ps.length = n ∧ mg x = some (.ref f) ∧ PySem.W.keepIn K (.ref f) = true ∧ Binds K fd ps ds ∧ Vals dvs ds ∧ (∀ μ H, Rps K μ H dv dvs) ∧ FnOk P w K mg base (CX P w) k f fd ps (spO g c i n)
def eCall (c : Oracle) (i n : Nat) (dv : List PV) (a : Env' → Store → R (List PV)) : Env' → Store → R PV := fun ρ S => (a ρ S).bind fun vs S1 => if vs.length + dv.length = n then c i (vs ++ dv) S1 else .bad
variable {cc : Oracle} {k i n : Nat} {dv : List PV}
theorem se_call (F : FnF X.prog X.w X.K X.mg X.base g cc k i x n dv) (hK : X.K = g.K) (hr : Room k X.A) (tk : Takes X W) (hg : Gl X x) (ha : SA X g W (a :: es) fs) (hdb : (x == ("__debug__" : Str)) = false := by decide)
    (he : starEach (a :: es) X.env = (false, eval a X.env) :: starEach es X.env := by rfl) (hpl : (backTo pos (starEach es X.env)).any (·.1) = false := by rfl) : SE X g W (.Call (.Name x p) (a :: es) [] pos) (eCall cc i n dv fs) := by
  obtain ⟨f, fd, ps, ds, dvs, hps, hm, hk, hb, hd, hdv, ok⟩ := F
  refine PEimp (pe_callSD (E := WE W) ok hr hg hm hk hb hd (fun σ => passAt tk σ) ha hdb he hpl) fun σ H Q h => aOne h fun μ vs S xs H2 rs rv q => ?_
  split at q
  · rename_i hl
    have r2 := rv.append (hK ▸ hdv μ H2)
    exact ⟨by rw [← r2.length, List.length_append]; exact hl, μ, S, vs ++ dv, rs, r2, q⟩
  · exact q.elim
theorem se_call0 (F : FnF X.prog X.w X.K X.mg X.base g cc k i x n dv) (hK : X.K = g.K) (hr : Room k X.A) (tk : Takes X W) (hg : Gl X x) (hdb : (x == ("__debug__" : Str)) = false := by decide) : SE X g W (.Call (.Name x p) [] [] pos) (eCall cc i n dv eNil) := by
  obtain ⟨f, fd, ps, ds, dvs, hps, hm, hk, hb, hd, hdv, ok⟩ := F
  refine ⟨fun pins s σ H Q I h => ?_⟩
  refine wpAny_Call_Name_kw (ld_glob I hg hm ?_ hdb)
  refine PySem.W.callWith_K0 I.kIn hk (run_fnSD (us := []) (E := WE W) ok hr hb hd (passAt tk σ) I .nil ?_)
  obtain ⟨μ, ρ, S, re, rs, q⟩ := h
  have q2 : PostE g W σ μ H (if 0 + dv.length = n then cc i ([] ++ dv) S else .bad) Q := q
  split at q2
  · rename_i hl
    have r2 : Rps g.K μ H ([] ++ dv) ([] ++ dvs) := hK ▸ hdv μ H
    exact ⟨by rw [← r2.length, List.length_append]; exact hl, μ, S, _, rs, r2, q2⟩
  · exact q2.elim
end
end Ev


/-! Ev: statements. -/
namespace Ev
open PySem PySem.Spec PyProof.Rows L2

inductive Fl where
  | nx (ρ : Env') | rt (v : PV) | bk (ρ : Env') | ct (ρ : Env')
inductive RO where
  | ok (f : Fl) (S : Store) | exc (c : Nat) (ρ : Env') (S : Store) | bad
def bindE {α : Type} (r : R α) (ρ : Env') (k : α → Store → RO) : RO := match r with
  | .ok a S => k a S
  | .exc c S => .exc c ρ S
  | .bad => .bad
abbrev SF := Env' → Store → RO
def PostS (g : G) (W : WX) (μ : List Addr) (H : Hp) (r : RO) (D : Ends) : Prop := match r with
  | .ok (.nx ρ') S' => ∀ μ' σ' H', Pre μ μ' → Le g.K H H' → RS g μ' S' H' → RE g.K μ' H' ρ' σ' → D.nx σ' H'
  | .ok (.bk ρ') S' => ∀ μ' σ' H', Pre μ μ' → Le g.K H H' → RS g μ' S' H' → RE g.K μ' H' ρ' σ' → D.bk σ' H'
  | .ok (.ct ρ') S' => ∀ μ' σ' H', Pre μ μ' → Le g.K H H' → RS g μ' S' H' → RE g.K μ' H' ρ' σ' → D.ct σ' H'
  | .ok (.rt v) S' => ∀ μ' x H', Pre μ μ' → Le g.K H H' → RS g μ' S' H' → Rp g.K μ' H' v x → D.rt x H'
  | .exc c ρ' S' => ∀ μ' σ' H', Pre μ μ' → Le g.K H H' → RS g μ' S' H' → RE g.K μ' H' ρ' σ' → W (g.cv c) none σ' H'
  | .bad => False
section
variable {g : G} {W : WX} {μ : List Addr} {H : Hp} {σ : St} {ρ : Env'}
theorem PostS.later {μ1 : List Addr} {H1 : Hp} {r : RO} {D : Ends} (p : PostS g W μ H r D) (hp : Pre μ μ1) (hl : Le g.K H H1) : PostS g W μ1 H1 r D := by
  cases r with
  | ok f S' => cases f <;> exact fun μ' x H' a b c d => p μ' x H' (hp.trans a) (hl.trans b) c d
  | exc c ρ' S' => exact fun μ' x H' a b c d => p μ' x H' (hp.trans a) (hl.trans b) c d
  | bad => exact p
theorem PostS.bindE {α β : Type} {rel : List Addr → Hp → α → β → Prop} {r : R α} {k : α → Store → RO} {D : Ends} (p : PostS g W μ H (Ev.bindE r ρ k) D) (re : RE g.K μ H ρ σ) :
    Post g (wx g W σ) μ H rel r (fun x H1 => ∃ μ1 a S1, Pre μ μ1 ∧ Le g.K H H1 ∧ RS g μ1 S1 H1 ∧ rel μ1 H1 a x ∧ PostS g W μ1 H1 (k a S1) D) := by
  cases r with
  | ok a S' => exact fun μ' x H' hp hl rs rl => ⟨μ', a, S', hp, hl, rs, rl, PostS.later (r := k a S') p hp hl⟩
  | exc c S' => exact fun μ' H' hp hl rs => p μ' σ H' hp hl rs (re.mono hp hl)
  | bad => exact p
theorem PostS.nx {S : Store} {D : Ends} (p : PostS g W μ H (.ok (.nx ρ) S) D) (rs : RS g μ S H) (re : RE g.K μ H ρ σ) : D.nx σ H := p μ σ H .refl .refl rs re
theorem PostS.rt {S : Store} {v : PV} {x : V} {D : Ends} (p : PostS g W μ H (.ok (.rt v) S) D) (rs : RS g μ S H) (r : Rp g.K μ H v x) : D.rt x H := p μ x H .refl .refl rs r
/-- the same outcome under another wish of what follows -/
theorem PostS.imp {r : RO} {D D' : Ends} (p : PostS g W μ H r D) (h1 : ∀ σ H, D.nx σ H → D'.nx σ H) (h2 : ∀ x H, D.rt x H → D'.rt x H) (h3 : ∀ σ H, D.bk σ H → D'.bk σ H) (h4 : ∀ σ H, D.ct σ H → D'.ct σ H) : PostS g W μ H r D' := by
  cases r with
  | ok f S' =>
    cases f with
    | nx ρ => exact fun μ' x H' a b c d => h1 _ _ (p μ' x H' a b c d)
    | rt v => exact fun μ' x H' a b c d => h2 _ _ (p μ' x H' a b c d)
    | bk ρ => exact fun μ' x H' a b c d => h3 _ _ (p μ' x H' a b c d)
    | ct ρ => exact fun μ' x H' a b c d => h4 _ _ (p μ' x H' a b c d)
  | exc c ρ' S' => exact p
  | bad => exact p
end
def tSv (g : G) (W : WX) (f : SF) : TS := fun D σ H => ∃ μ ρ S, RE g.K μ H ρ σ ∧ RS g μ S H ∧ PostS g W μ H (f ρ S) D
abbrev SS (X : Cx) (g : G) (W : WX) (st : Stmt) (f : SF) : Prop := PS X st (tSv g W f)
abbrev SSs (X : Cx) (g : G) (W : WX) (sts : List Stmt) (f : SF) : Prop := PSs X sts (tSv g W f)

abbrev EF := Env' → Store → R PV
abbrev BF := Env' → Store → R Bool
/-! ### small statements -/
def sNil : SF := fun ρ S => .ok (.nx ρ) S
def sSeq (a b : SF) : SF := fun ρ S => match a ρ S with
  | .ok (.nx ρ') S' => b ρ' S'
  | r => r
def sExpr (a : EF) : SF := fun ρ S => bindE (a ρ S) ρ fun _ S1 => .ok (.nx ρ) S1
def sRet (a : EF) : SF := fun ρ S => bindE (a ρ S) ρ fun v S1 => .ok (.rt v) S1
def sRetN : SF := fun _ S => .ok (.rt .non) S
def sIf (t : BF) (a b : SF) : SF := fun ρ S => bindE (t ρ S) ρ fun c S1 => if c then a ρ S1 else b ρ S1
def sBrk : SF := fun ρ S => .ok (.bk ρ) S
def sCnt : SF := fun ρ S => .ok (.ct ρ) S
def sRaise (c : Nat) : SF := fun ρ S => .exc c ρ S
section
variable {X : Cx} {g : G} {W : WX} {pos : Pos} {a b c : Expr} {fa fb fc : EF} {st : Stmt} {sts sts2 : List Stmt} {f f2 : SF}
theorem ss_nil : SSs X g W [] sNil := PSsimp pss_nil fun D σ H ⟨μ, ρ, S, re, rs, p⟩ => PostS.nx p rs re
theorem ss_cons (h1 : SS X g W st f) (h2 : SSs X g W sts f2) : SSs X g W (st :: sts) (sSeq f f2) :=
  PSsimp (pss_cons h1 h2) fun D σ H ⟨μ, ρ, S, re, rs, p⟩ => by
    refine ⟨μ, ρ, S, re, rs, ?_⟩
    unfold sSeq at p
    cases e : f ρ S with
    | ok fl S' =>
      rw [e] at p
      cases fl with
      | nx ρ' => exact fun μ' σ' H' hp hl rs' re' => ⟨μ', ρ', S', re', rs', PostS.later (r := f2 ρ' S') p hp hl⟩
      | rt v => exact p
      | bk ρ => exact p
      | ct ρ => exact p
    | exc c ρ' S' => rw [e] at p; exact p
    | bad => rw [e] at p; exact p
theorem ss_one (h1 : SS X g W st f) : SSs X g W [st] f := pss_one h1
theorem ss_pass : SS X g W (.Pass pos) sNil := PSimp ps_pass fun D σ H ⟨μ, ρ, S, re, rs, p⟩ => PostS.nx p rs re
theorem ss_brk : SS X g W (.Break pos) sBrk := PSimp ps_break fun D σ H ⟨μ, ρ, S, re, rs, p⟩ => p μ σ H .refl .refl rs re
theorem ss_cnt : SS X g W (.Continue pos) sCnt := PSimp ps_continue fun D σ H ⟨μ, ρ, S, re, rs, p⟩ => p μ σ H .refl .refl rs re
theorem ss_expr (ha : SE X g W a fa) (hs : swapsWith a none pos.line X.env = pure false := by rfl) : SS X g W (.Expr a pos) (sExpr fa) :=
  PSimp (ps_expr ha hs) fun D σ H ⟨μ, ρ, S, re, rs, p⟩ => ⟨μ, ρ, S, re, rs, (PostS.bindE p re).imp fun x H1 ⟨μ1, v, S1, hp, hl, rs1, rv, q⟩ => PostS.nx q rs1 (re.mono hp hl)⟩
theorem ss_ret (ha : SE X g W a fa) : SS X g W (.Return (some a) pos) (sRet fa) :=
  PSimp (ps_ret ha) fun D σ H ⟨μ, ρ, S, re, rs, p⟩ => ⟨μ, ρ, S, re, rs, (PostS.bindE p re).imp fun x H1 ⟨μ1, v, S1, hp, hl, rs1, rv, q⟩ => PostS.rt q rs1 rv⟩
theorem ss_retN : SS X g W (.Return none pos) sRetN := PSimp ps_retN fun D σ H ⟨μ, ρ, S, re, rs, p⟩ => PostS.rt p rs .non
theorem ss_if {t : Expr} {ft : BF} (ht : ST X g W t ft) (h1 : SSs X g W sts f) (h2 : SSs X g W sts2 f2) : SS X g W (.If t sts sts2 pos) (sIf ft f f2) :=
  PSimp (ps_if ht h1 h2) fun D σ H ⟨μ, ρ, S, re, rs, p⟩ => ⟨μ, ρ, S, re, rs, (PostS.bindE p re).imp fun x H1 ⟨μ1, v, S1, hp, hl, rs1, rv, q⟩ => by
    subst rv
    cases v with
    | true => exact ⟨μ1, ρ, S1, re.mono hp hl, rs1, q⟩
    | false => exact ⟨μ1, ρ, S1, re.mono hp hl, rs1, q⟩⟩
/-- raise X('..') -/
theorem ss_raise {x m : Str} {j k : Nat} {C : Addr} {p1 p2 pc : Pos} {bmB : List Value} {B newId initId : String} (hc : X.calm = true) (tk : Takes X W) (F : ExcBaseFacts B newId initId bmB) (hcv : g.cv k = .ref C)
    (q : PySem.W.excIn X.K C bmB newId = true) (gC : X.mg x = some (.ref C)) (kC : PySem.W.keepIn X.K (.ref C) = true) (r : Raises X (.ref C)) (hg : Gl X x) (hdb : (x == ("__debug__" : Str)) = false := by decide) :
    SS X g W (.Raise (some (.Call (.Name x p1) [.Constant (.str m) j p2] [] pc)) none pos) (sRaise k) :=
  PSimp (ps_raise hc tk (pmk_own F q gC kC r hg hdb)) fun D σ H ⟨μ, ρ, S, re, rs, p⟩ => by
    have := p μ σ H .refl .refl rs re
    rw [hcv] at this
    exact this
/-! ### targets -/
abbrev Tg := PV → Env' → Store → Option (Env' × Store)
def tgv (g : G) (t : Tg) : TG := fun v σ H Q => ∃ μ ρ S w ρ' S', RE g.K μ H ρ σ ∧ RS g μ S H ∧ Rp g.K μ H w v ∧ t w ρ S = some (ρ', S') ∧ ∀ μ' σ' H', Pre μ μ' → Le g.K H H' → RS g μ' S' H' → RE g.K μ' H' ρ' σ' → Q σ' H'
abbrev SG (X : Cx) (g : G) (tg : Expr) (t : Tg) : Prop := PG X tg (tgv g t)
theorem PGimp {tg : Expr} {t t' : TG} (h : PG X tg t) (i : ∀ v σ H Q, t' v σ H Q → t v σ H Q) : PG X tg t' := ⟨fun pins s σ H v u Q I r q => h.run pins s σ H v u Q I r (i _ _ _ _ q)⟩
def tgN (i : Nat) : Tg := fun v ρ S => some (ρ.set i (some v), S)
theorem sg_name {i : Nat} {x : Str} (hN : X.N.Nodup) (hi : X.N[i]? = some x) (hx : Loc X.env.scope x) (hf : X.fn x = true ∨ X.env.scope.names.lookup x = some .local := by first | exact .inl rfl | exact .inr rfl | assumption) : SG X g (.Name x pos) (tgN i) :=
  PGimp (pg_name hN hi hx hf) fun v σ H Q ⟨μ, ρ, S, w, ρ', S', re, rs, rv, e, k⟩ => by
    cases e
    exact k μ _ H .refl .refl rs (re.set rv i)
/-- several targets -/
abbrev Tgs := List PV → Env' → Store → Option (Env' × Store)
def tgvs (g : G) (t : Tgs) : TGs := fun vs σ H Q => ∃ μ ρ S ws ρ' S', RE g.K μ H ρ σ ∧ RS g μ S H ∧ Rps g.K μ H ws vs ∧ t ws ρ S = some (ρ', S') ∧ ∀ μ' σ' H', Pre μ μ' → Le g.K H H' → RS g μ' S' H' → RE g.K μ' H' ρ' σ' → Q σ' H'
abbrev SGs (X : Cx) (g : G) (tg : List Expr) (t : Tgs) : Prop := PGs X tg (tgvs g t)
theorem PGsimp {tg : List Expr} {t t' : TGs} (h : PGs X tg t) (i : ∀ v σ H Q, t' v σ H Q → t v σ H Q) : PGs X tg t' := ⟨fun pins s σ H v u Q I r q => h.run pins s σ H v u Q I r (i _ _ _ _ q)⟩
def tgNil : Tgs := fun vs ρ S => match vs with
  | [] => some (ρ, S)
  | _ => none
def tgCons (t : Tg) (u : Tgs) : Tgs := fun vs ρ S => match vs with
  | v :: r => match t v ρ S with
    | some (ρ', S') => u r ρ' S'
    | none => none
  | [] => none
theorem sg_nil : SGs X g [] tgNil := PGsimp pgs_nil fun v σ H Q ⟨μ, ρ, S, w, ρ', S', re, rs, rv, e, k⟩ => by
  unfold tgNil at e
  split at e
  · cases e; cases rv; exact ⟨rfl, k μ _ H .refl .refl rs re⟩
  · cases e
theorem sg_cons {es : List Expr} {t : Tg} {u : Tgs} (h1 : SG X g a t) (h2 : SGs X g es u) (hs : (assignEach (a :: es) X.env).map (·.2) = assign a X.env :: (assignEach es X.env).map (·.2) := by rfl) : SGs X g (a :: es) (tgCons t u) :=
  PGsimp (pgs_cons h1 h2 hs) fun v σ H Q ⟨μ, ρ, S, w, ρ', S', re, rs, rv, e, k⟩ => by
    unfold tgCons at e
    split at e
    · rename_i w1 wr
      split at e
      · rename_i ρ1 S1 e1
        cases rv with
        | cons r1 r2 =>
          refine ⟨_, _, rfl, μ, ρ, S, w1, ρ1, S1, re, rs, r1, e1, fun μ' σ' H' hp hl rs' re' => ?_⟩
          exact ⟨μ', ρ1, S1, wr, ρ', S', re', rs', r2.mono hp hl, e, fun μ2 σ2 H2 hp2 hl2 rs2 re2 => k μ2 σ2 H2 (hp.trans hp2) (hl.trans hl2) rs2 re2⟩
      · cases e
    · cases e
def tgT (n : Nat) (u : Tgs) : Tg := fun v ρ S => match v with
  | .tup xs => if xs.length = n then u xs ρ S else none
  | _ => none
theorem sg_tup {es : List Expr} {k n : Nat} {u : Tgs} (hK : X.K = g.K) (hc : X.calm = true) (h : SGs X g es u) (hn : (assignEach es X.env).length = n := by rfl) (hst : (assignEach es X.env).findIdx? (·.1) = none := by rfl) : SG X g (.Tuple es k pos) (tgT n u) :=
  PGimp (pg_tup hc h hn hst) fun v σ H Q ⟨μ, ρ, S, w, ρ', S', re, rs, rv, e, k⟩ => by
    unfold tgT at e
    split at e
    · split at e
      · rename_i hl
        cases rv with
        | tup h1 r1 => exact ⟨_, _, rfl, by rw [hK]; exact h1, by rw [← r1.length]; exact hl, μ, ρ, S, _, ρ', S', re, rs, r1, e, k⟩
      · cases e
    · cases e
/-- o[i] = v -/
def hasP (k : PV) (kvs : List (PV × PV)) : Bool := kvs.any fun kv => eqF kv.1 k
def putP (kvs : List (PV × PV)) (k v : PV) : List (PV × PV) := if hasP k kvs then kvs.map fun kv => if eqF kv.1 k then (kv.1, v) else kv else kvs ++ [(k, v)]
def valP (kvs : List (PV × PV)) (k : PV) : Option PV := (kvs.find? fun kv => eqF kv.1 k).map (·.2)
def keyP : PV → Bool
  | .int _ => true
  | .str _ => true
  | _ => false
def setP (o i v : PV) (S : Store) : Option Store := match o with
  | .loc l => match S[l]? with
    | some (.lst xs) => match i with
      | .int k => match ixN xs.length k with
        | some j => some (S.set l (.lst (xs.set j v)))
        | none => none
      | _ => none
    | some (.dic kvs) => if keyP i ∧ kvs.length < LINE then some (S.set l (.dic (putP kvs i v))) else none
    | _ => none
  | _ => none
def tgS (o i : EF) : Tg := fun v ρ S => match o ρ S with
  | .ok ov S1 => match i ρ S1 with
    | .ok iv S2 => match setP ov iv v S2 with
      | some S3 => some (ρ, S3)
      | none => none
    | _ => none
  | _ => none
def rSet (g : G) : V → V → V → Hp → (Hp → Prop) → Prop := fun o i v H Q => ∃ μ S ow iw w S', RS g μ S H ∧ Rp g.K μ H ow o ∧ Rp g.K μ H iw i ∧ Rp g.K μ H w v ∧ setP ow iw w S = some S' ∧ ∀ μ' H', Pre μ μ' → Le g.K H H' → RS g μ' S' H' → Q H'
end
/-! ### dicts -/
section
variable {g : G} {μ : List Addr} {S : Store} {H : Hp}
theorem Rk.dec {a b : PV} {x y : Key} (h : Rk a x) (k : Rk b y) : eqF a b = decide (x = y) := by
  cases h <;> cases k
  · rename_i i j
    rw [key_ll]; rfl
  · rw [key_lr]; rfl
  · rw [key_rl]; rfl
  · rename_i s t
    rw [key_rr]
    show (s == t) = _
    by_cases e : s = t
    · subst e; simp
    · have h2 : ¬ ((⟨s.toArray⟩ : Str) = ⟨t.toArray⟩) := fun z => e (by have := congrArg (fun s : Str => s.cps.toList) z; simpa using this)
      rw [decide_eq_false h2]; simp [e]
theorem Rk.of {v : PV} {x : V} (r : Rp g.K μ H v x) (k : keyP v = true) : ∃ y, Rk v y ∧ x = kV y := by
  cases r with
  | int i => exact ⟨_, .int i, rfl⟩
  | str s => exact ⟨_, .str s, rfl⟩
  | non => cases k
  | bl b => cases k
  | tup h r => cases k
  | loc h => cases k
theorem Rkv.has {k : PV} {y : Key} (hk : Rk k y) : ∀ {kvs : List (PV × PV)} {ks : List (Key × V)}, Rkv g.K μ H kvs ks → hasP k kvs = ks.any fun kv => decide (kv.1 = y)
  | _, _, .nil => rfl
  | _, _, .cons h _ r => by
    have ih := Rkv.has hk r
    unfold hasP at ih ⊢
    rw [List.any_cons, List.any_cons, ih, h.dec hk]
theorem Rkv.repl {k : PV} {y : Key} {v : PV} {x : V} (hk : Rk k y) (rv : Rp g.K μ H v x) : ∀ {kvs : List (PV × PV)} {ks : List (Key × V)}, Rkv g.K μ H kvs ks →
    Rkv g.K μ H (kvs.map fun kv => if eqF kv.1 k then (kv.1, v) else kv) (ks.map fun kv => if kv.1 = y then (kv.1, x) else kv)
  | _, _, .nil => .nil
  | _, _, .cons (k := k') (k' := y') h r0 r => by
    rw [List.map_cons, List.map_cons]
    have e := h.dec hk
    by_cases q : y' = y
    · rw [if_pos q, if_pos (by rw [e]; exact decide_eq_true q)]
      exact .cons h rv (Rkv.repl hk rv r)
    · rw [if_neg q, if_neg (by rw [e, decide_eq_false q]; decide)]
      exact .cons h r0 (Rkv.repl hk rv r)
theorem Rkv.snoc {k : PV} {y : Key} {v : PV} {x : V} (hk : Rk k y) (rv : Rp g.K μ H v x) : ∀ {kvs : List (PV × PV)} {ks : List (Key × V)}, Rkv g.K μ H kvs ks → Rkv g.K μ H (kvs ++ [(k, v)]) (ks ++ [(y, x)])
  | _, _, .nil => .cons hk rv .nil
  | _, _, .cons h r0 r => .cons h r0 (Rkv.snoc hk rv r)
theorem Rkv.put {k : PV} {y : Key} {v : PV} {x : V} (hk : Rk k y) (rv : Rp g.K μ H v x) {kvs : List (PV × PV)} {ks : List (Key × V)} (r : Rkv g.K μ H kvs ks) : Rkv g.K μ H (putP kvs k v) (L2.putK ks y x) := by
  unfold putP L2.putK
  rw [Rkv.has hk r]
  split
  · exact r.repl hk rv
  · exact r.snoc hk rv
theorem Rkv.val {k : PV} {y : Key} (hk : Rk k y) : ∀ {kvs : List (PV × PV)} {ks : List (Key × V)}, Rkv g.K μ H kvs ks → (∀ v, valP kvs k = some v → ∃ x, valV ks y = some x ∧ Rp g.K μ H v x) ∧ (valP kvs k = none → valV ks y = none)
  | _, _, .nil => ⟨fun _ e => (by cases e), fun _ => rfl⟩
  | _, _, .cons (k := k') (k' := y') h r0 r => by
    have ih := Rkv.val hk r
    have e := h.dec hk
    by_cases q : y' = y
    · have e2 : eqF k' k = true := by rw [e]; exact decide_eq_true q
      refine ⟨fun v hv => ?_, fun hv => ?_⟩
      · unfold valP at hv
        rw [List.find?_cons_of_pos (by exact e2)] at hv
        cases hv
        exact ⟨_, valV_pos q, r0⟩
      · unfold valP at hv
        rw [List.find?_cons_of_pos (by exact e2)] at hv
        cases hv
    · have e2 : ¬ (eqF k' k = true) := by rw [e, decide_eq_false q]; decide
      refine ⟨fun v hv => ?_, fun hv => ?_⟩
      · unfold valP at hv
        rw [List.find?_cons_of_neg (by exact e2)] at hv
        obtain ⟨x, a, b⟩ := ih.1 v hv
        exact ⟨x, by rw [valV_neg q]; exact a, b⟩
      · unfold valP at hv
        rw [List.find?_cons_of_neg (by exact e2)] at hv
        rw [valV_neg q]
        exact ih.2 hv
theorem Rkv.mono' {μ' : List Addr} {H' : Hp} {kvs : List (PV × PV)} {ks : List (Key × V)} (r : Rkv g.K μ H kvs ks) (p : Pre μ μ') (l : Le g.K H H') : Rkv g.K μ' H' kvs ks := r.mono p l
end
section
variable {X : Cx} {g : G} {W : WX} {pos : Pos} {a b c o i : Expr} {fa fb fc fo fi : EF}
theorem PSet.or {r r' : TSet} (h : PSet X r) (h' : PSet X r') : PSet X (fun o i v H Q => r o i v H Q ∨ r' o i v H Q) := by
  intro pins s σ H o i v ov iv u Q I r1 r2 r3 q
  rcases q with q | q
  · exact h pins s σ H o i v ov iv u Q I r1 r2 r3 q
  · exact h' pins s σ H o i v ov iv u Q I r1 r2 r3 q
theorem setV (hu : X.A.units + 1 < cLine) : PSet X (rSet g) := by
  intro pins s σ H o i v ov iv u Q I ro ri rv h
  obtain ⟨μ, S, ow, iw, w, S', rs, r1, r2, r3, e, k⟩ := h
  unfold setP at e
  split at e
  · split at e
    · rename_i l xs e1
      split at e
      · rename_i kk
        split at e
        · rename_i j e2
          cases e
          cases r1 with
          | loc h1 =>
            cases r2
            obtain ⟨vs, q1, rr⟩ := rs.lst h1 e1
            refine set_list pins s σ H _ _ v ov iv u Q I ro ri rv ⟨_, vs, _, j, rfl, rfl, q1, by rw [← rr.length]; exact e2, ?_⟩
            have w := Wr.lst q1
            exact k μ _ .refl (.upd w) (rs.put h1 e1 rfl rfl ⟨_, upd_same, (rr.set j r3).mono .refl (.upd w)⟩)
        · cases e
      · cases e
    · rename_i l kvs e1
      split at e
      · rename_i hc
        cases e
        cases r1 with
        | loc h1 =>
          obtain ⟨ks, q1, rr⟩ := rs.dic h1 e1
          obtain ⟨y, hk, rfl⟩ := Rk.of r2 hc.1
          have w := Wr.dK q1
          refine set_dict hu pins s σ H _ _ v ov iv u Q I ro ri rv ⟨_, _, rfl, DPut.k q1 (by rw [← rr.length, line_eq]; exact hc.2), ?_⟩
          exact k μ _ .refl (.upd w) (rs.put h1 e1 rfl rfl ⟨_, upd_same, (rr.put hk r3).mono .refl (.upd w)⟩)
      · cases e
    · cases e
  · cases e
theorem sg_sub (hu : X.A.units + 1 < cLine) (ho : SE X g W o fo) (hi : SE X g W i fi)
    (ha : ∀ v, assign (.Subscript o i pos) X.env v = (do
      let ov ← holding [v] (eval o X.env)
      let iv ← holding [v, ov] (eval i X.env)
      standAt pos
      holding [v, ov, iv] (setItem ov iv v)
      release [v, ov, iv] []) := by intro _; rfl) : SG X g (.Subscript o i pos) (tgS fo fi) :=
  PGimp (pg_sub ho hi (setV (g := g) hu) ha) fun v σ H Q ⟨μ, ρ, S, w, ρ', S', re, rs, rv, e, k⟩ => by
    unfold tgS at e
    split at e
    · rename_i ov S1 e1
      split at e
      · rename_i iv S2 e2
        split at e
        · rename_i S3 e3
          cases e
          refine ⟨μ, ρ, S, re, rs, ?_⟩
          rw [e1]
          intro μ1 x H1 p1 l1 rs1 r1
          refine ⟨μ1, ρ, S1, re.mono p1 l1, rs1, ?_⟩
          rw [e2]
          intro μ2 y H2 p2 l2 rs2 r2
          exact ⟨μ2, S2, ov, iv, w, _, rs2, r1.mono p2 l2, r2, (rv.mono p1 l1).mono p2 l2, e3, fun μ3 H3 p3 l3 rs3 => k μ3 σ H3 ((p1.trans p2).trans p3) ((l1.trans l2).trans l3) rs3 (((re.mono p1 l1).mono p2 l2).mono p3 l3)⟩
        · cases e
      · cases e
    · cases e
/-! ### assignments -/
def sAsg (a : EF) (t : Tg) : SF := fun ρ S => bindE (a ρ S) ρ fun v S1 => match t v ρ S1 with
  | some (ρ', S') => .ok (.nx ρ') S'
  | none => .bad
theorem asgP {t : Tg} {D : Ends} {σ : St} {H : Hp} (h : tSv g W (sAsg fa t) D σ H) : tEv g W fa σ H fun x H1 => tgv g t x σ H1 D.nx := by
  obtain ⟨μ, ρ, S, re, rs, p⟩ := h
  refine ⟨μ, ρ, S, re, rs, (PostS.bindE p re).imp fun x H1 ⟨μ1, v, S1, hp, hl, rs1, rv, q⟩ => ?_⟩
  split at q
  · rename_i ρ' S' e
    exact ⟨μ1, ρ, S1, v, ρ', S', re.mono hp hl, rs1, rv, e, q⟩
  · exact q.elim
theorem ss_asg {tg : Expr} {t : Tg} (ha : SE X g W a fa) (ht : SG X g tg t) (hs : swapsWithSole [tg] a pos.line X.env = pure false := by rfl) (hw : swappedStores [tg] a X.env = pure none := by rfl)
    (h1 : (assignEach [tg] X.env).map (·.2) = [assign tg X.env] := by rfl) : SS X g W (.Assign [tg] a pos) (sAsg fa t) :=
  PSimp (ps_asg ha ht hs hw h1) fun D σ H h => asgP h
theorem ss_set {k : Nat} {x : Str} {pos' : Pos} (hN : X.N.Nodup) (hi : X.N[k]? = some x) (hx : Loc X.env.scope x) (ha : SE X g W a fa) (hs : swapsWith a (some (.Name x pos')) pos.line X.env = pure false := by rfl) (hf : X.fn x = true ∨ X.env.scope.names.lookup x = some .local := by first | exact .inl rfl | exact .inr rfl | assumption) :
    SS X g W (.Assign [.Name x pos'] a pos) (sAsg fa (tgN k)) :=
  PSimp (ps_set hN hi hx ha hs hf) fun D σ H h => by
    obtain ⟨μ, ρ, S, re, rs, p⟩ := h
    exact ⟨μ, ρ, S, re, rs, (PostS.bindE p re).imp fun x H1 ⟨μ1, v, S1, hp, hl, rs1, rv, q⟩ => q μ1 _ H1 .refl .refl rs1 ((re.mono hp hl).set rv k)⟩
/-- a, b = x, y of plain local names -/
def sPar (i j : Nat) (a : Env' → Store → R (List PV)) : SF := fun ρ S => bindE (a ρ S) ρ fun vs S1 => match vs with
  | [v, w] => .ok (.nx ((ρ.set i (some v)).set j (some w))) S1
  | _ => .bad
theorem ss_par {i j : Nat} {x y : Str} {fs : Env' → Store → R (List PV)} {px py pt : Pos} {kt k2 pt2} (hc : X.calm = true) (hN : X.N.Nodup) (hi : X.N[i]? = some x) (hj : X.N[j]? = some y) (hij : i ≠ j)
    (hx : X.env.scope.names.lookup x = some .local) (hy : X.env.scope.names.lookup y = some .local) (ha : SA X g W [a, b] fs)
    (hw : swappedStores [.Tuple [.Name x px, .Name y py] kt pt] (.Tuple [a, b] k2 pt2) X.env = pure (some [x, y]))
    (hs : swapsWithSole [.Tuple [.Name x px, .Name y py] kt pt] (.Tuple [a, b] k2 pt2) pos.line X.env = pure false := by rfl) :
    SS X g W (.Assign [.Tuple [.Name x px, .Name y py] kt pt] (.Tuple [a, b] k2 pt2) pos) (sPar i j fs) :=
  PSimp (ps_par hc hN hi hj hij hx hy ha hw hs) fun D σ H h => by
    obtain ⟨μ, ρ, S, re, rs, p⟩ := h
    refine ⟨μ, ρ, S, re, rs, (PostS.bindE p re).imp fun x H1 ⟨μ1, v, S1, hp, hl, rs1, rv, q⟩ => ?_⟩
    split at q
    · obtain ⟨x1, x2, rfl, r1, r2⟩ := rv.two
      exact ⟨_, _, rfl, q μ1 _ H1 .refl .refl rs1 (((re.mono hp hl).set r1 i).set r2 j)⟩
    · exact q.elim
/-- x op= e -/
def sAug (i : Nat) (op : BOp) (a : EF) : SF := fun ρ S => match ρ[i]? with
  | some (some v) => bindE (a ρ S) ρ fun w S1 => match op v w S1 with
      | some (z, S2) => .ok (.nx (ρ.set i (some z))) S2
      | none => .bad
  | _ => .bad
theorem ss_aug {k : Nat} {x : Str} {op : Operator} {f : BOp} {pos' : Pos} (hN : X.N.Nodup) (hi : X.N[k]? = some x) (hx : Loc X.env.scope x) (ha : SE X g W a fa) (ho : OpR X (inplaceOp op) (rV2 g f)) (hf : X.fn x = true ∨ X.env.scope.names.lookup x = some .local := by first | exact .inl rfl | exact .inr rfl | assumption) :
    SS X g W (.AugAssign (.Name x pos') op a pos) (sAug k f fa) :=
  PSimp (ps_aug hN hi hx ha ho hf) fun D σ H h => by
    obtain ⟨μ, ρ, S, re, rs, p⟩ := h
    unfold sAug at p
    split at p
    · rename_i v e
      obtain ⟨x1, e1, r1⟩ := re.at_ k v e
      refine ⟨x1, e1, μ, ρ, S, re, rs, (PostS.bindE p re).imp fun y H1 ⟨μ1, w, S1, hp, hl, rs1, rv, q⟩ => ?_⟩
      split at q
      · rename_i z S2 e2
        refine ⟨μ1, v, w, S1, z, S2, rs1, r1.mono hp hl, rv, e2, fun μ' x' H' hp' hl' rs' r' => ?_⟩
        exact q μ' _ H' hp' hl' rs' (((re.mono hp hl).mono hp' hl').set r' k)
      · exact q.elim
    · exact p.elim
def iaddP : BOp
  | .int a, .int b, S => some (.int (a + b), S)
  | .str a, .str b, S => if a.length + b.length ≤ LINE then some (.str (a ++ b), S) else none
  | .loc l, .loc k, S => match S[l]?, S[k]? with
    | some (.lst a), some (.lst b) => if a.length + b.length ≤ LINE then some (.loc l, S.set l (.lst (a ++ b))) else none
    | _, _ => none
  | _, _, _ => none
theorem opIadd : OpR X (inplaceOp .Add) (rV2 g iaddP) := by
  intro pins s σ H x y v u Q I rx ry h
  obtain ⟨μ, a, b, S, z, S', rs, ra, rb, e, k⟩ := h
  unfold iaddP at e
  split at e
  · cases ra; cases rb; cases e
    exact iop_add pins s σ H _ _ v u Q I rx ry ⟨_, _, rfl, rfl, k μ _ H .refl .refl rs (.int _)⟩
  · split at e
    · rename_i hl
      cases ra; cases rb; cases e
      refine iop_add_str pins s σ H _ _ v u Q I rx ry ⟨_, _, rfl, rfl, by rw [slen, slen, line_eq]; exact hl, ?_⟩
      rw [sapp]
      exact k μ _ H .refl .refl rs (.str _)
    · cases e
  · split at e
    · split at e
      · rename_i hl
        rename_i e1 e2
        cases ra with
        | loc h1 =>
          cases rb with
          | loc h2 =>
            cases e
            obtain ⟨vs, q1, r1⟩ := rs.lst h1 e1
            obtain ⟨ws, q2, r2⟩ := rs.lst h2 e2
            have w := Wr.lst q1
            refine iop_ext pins s σ H _ _ v u Q I rx ry ⟨_, _, _, _, rfl, rfl, q1, q2, by rw [← r1.length, ← r2.length, line_eq]; exact hl, ?_⟩
            exact k μ _ _ .refl (.upd w) (rs.put h1 e1 rfl rfl ⟨_, upd_same, (r1.append r2).mono .refl (.upd w)⟩) (.loc h1)
      · cases e
    · cases e
  · cases e
end
end Ev


/-! Ev: loops, try. -/
namespace Ev
open PySem PySem.Spec PyProof.Rows L2

/-! ### what is walked -/
inductive Src where
  | seq (xs : List PV) | rng (lo : Int) (n : Nat) | ref (l : Nat) | enm (l : Nat) | zip (l k : Nat) | itm (l : Nat) | key (l : Nat) | val (l : Nat)
def listAt (S : Store) (l : Nat) : Option (List PV) := match S[l]? with
  | some (.lst xs) => some xs
  | some (.rol xs) => some xs
  | _ => none
/-- none: no answer; some none: the end -/
def nth (s : Src) (i : Nat) (S : Store) : Option (Option PV) := match s with
  | .seq xs => some xs[i]?
  | .rng lo n => some (if i < n then some (.int (lo + i)) else none)
  | .ref l => match listAt S l with
    | some xs => some xs[i]?
    | none => none
  | .enm l => match listAt S l with
    | some xs => match xs[i]? with
      | some v => some (some (.tup [.int (i : Nat), v]))
      | none => some none
    | none => none
  | .zip l k => match listAt S l, listAt S k with
    | some xs, some ys => match xs[i]?, ys[i]? with
      | some x, some y => some (some (.tup [x, y]))
      | _, _ => some none
    | _, _ => none
  | .itm l => match S[l]? with
    | some (.rdc kvs) => some (kvs[i]?.map fun kv => .tup [kv.1, kv.2])
    | _ => none
  | .key l => match S[l]? with
    | some (.rdc kvs) => some (kvs[i]?.map (·.1))
    | _ => none
  | .val l => match S[l]? with
    | some (.rdc kvs) => some (kvs[i]?.map (·.2))
    | _ => none
def lenD (S : Store) (l : Nat) : Nat := match S[l]? with
  | some (.rdc kvs) => kvs.length
  | _ => 0
def fuelOf (s : Src) (S : Store) : Nat := match s with
  | .seq xs => xs.length + 1
  | .rng _ n => n + 1
  | .ref l => ((listAt S l).getD []).length + 65537
  | .enm l => ((listAt S l).getD []).length + 65537
  | .zip l _ => ((listAt S l).getD []).length + 65537
  | .itm l => lenD S l + 1
  | .key l => lenD S l + 1
  | .val l => lenD S l + 1
section
variable {g : G} {μ : List Addr} {S : Store} {H : Hp}
theorem RS.at_ {l : Nat} {a : Addr} {xs : List PV} (rs : RS g μ S H) (h1 : μ[l]? = some a) (e : listAt S l = some xs) : ∃ vs, SqL g.K H a vs ∧ Rps g.K μ H xs vs := by
  unfold listAt at e
  split at e
  · rename_i e1
    cases e
    obtain ⟨vs, q, r⟩ := rs.lst h1 e1
    exact ⟨vs, .inl (.inl q), r⟩
  · rename_i e1
    cases e
    obtain ⟨vs, q, r⟩ := rs.obj _ _ _ h1 e1
    exact ⟨vs, q.sq, r⟩
  · cases e
end
/-- an iterator that hands on what src tells -/
def ItOk (g : G) (μ0 : List Addr) (H0 : Hp) (src : Src) (J : It) : Prop := ∀ (μ : List Addr) (S : Store) (H : Hp) (i : Nat), Pre μ0 μ → Le g.K H0 H → RS g μ S H →
  (nth src i S = some none → J.stop i H) ∧ ∀ v, nth src i S = some (some v) → J.go i H ∧ ∀ x H', J.yld i H x H' → Le g.K H H' ∧ RS g μ S H' ∧ Rp g.K μ H' v x
section
variable {g : G} {μ0 : List Addr} {H0 : Hp}
theorem itTup {a : Addr} {vs : List V} {xs : List PV} (h : SqT g.K H0 a vs) (r : Rps g.K μ0 H0 xs vs) : ItOk g μ0 H0 (.seq xs) (Itt g.K a) := by
  intro μ S H i hp hl rs
  have h' := hl.tup _ _ h
  have r' := r.mono hp hl
  refine ⟨fun e => ?_, fun v e => ?_⟩
  · have e2 : xs[i]? = none := Option.some.inj e
    exact ⟨vs, h', List.getElem?_eq_none_iff.mp (r'.none_of e2)⟩
  · have e2 : xs[i]? = some v := Option.some.inj e
    obtain ⟨y, e3, ry⟩ := r'.get e2
    refine ⟨⟨vs, y, h', e3⟩, fun x H' q => ?_⟩
    obtain ⟨q1, q2⟩ := q
    subst q1
    have q3 := q2 vs h'
    rw [e3] at q3
    cases q3
    exact ⟨.refl, rs, ry⟩
theorem itStr {s : List Nat} : ItOk g μ0 H0 (.seq (s.map fun c => .str [c])) (Its ⟨s.toArray⟩) := by
  intro μ S H i hp hl rs
  refine ⟨fun e => ?_, fun v e => ?_⟩
  · have e2 : (s.map fun c => PV.str [c])[i]? = none := Option.some.inj e
    have e3 := List.getElem?_eq_none_iff.mp e2
    rw [List.length_map] at e3
    show s.toArray.size ≤ i
    simpa using e3
  · have e2 : (s.map fun c => PV.str [c])[i]? = some v := Option.some.inj e
    rw [List.getElem?_map] at e2
    cases e3 : s[i]? with
    | none => rw [e3] at e2; cases e2
    | some c =>
      rw [e3] at e2
      cases e2
      have hi : i < s.length := (List.getElem?_eq_some_iff.mp e3).1
      refine ⟨by show i < s.toArray.size; simpa using hi, fun x H' q => ?_⟩
      obtain ⟨q1, c', q2, q3⟩ := q
      subst q1
      have q4 : s.toArray[i]? = some c' := q2
      rw [List.getElem?_toArray, e3] at q4
      cases q4
      rw [q3]
      exact ⟨.refl, rs, .str [c]⟩
theorem itRng {lo : Int} {n : Nat} : ItOk g μ0 H0 (.rng lo n) (Itr lo n) := by
  intro μ S H i hp hl rs
  refine ⟨fun e => ?_, fun v e => ?_⟩
  · have e2 := Option.some.inj e
    split at e2
    · cases e2
    · rename_i h; exact Nat.le_of_not_lt h
  · have e2 := Option.some.inj e
    split at e2
    · rename_i h
      cases e2
      refine ⟨h, fun x H' q => ?_⟩
      obtain ⟨q1, q2⟩ := q
      subst q1; subst q2
      exact ⟨.refl, rs, .int _⟩
    · cases e2
theorem itRef {l : Nat} {a : Addr} (h : μ0[l]? = some a) : ItOk g μ0 H0 (.ref l) (Itl g.K a) := by
  intro μ S H i hp hl rs
  have h' := hp.get h
  refine ⟨fun e => ?_, fun v e => ?_⟩ <;> (unfold nth at e; dsimp only at e; split at e)
  · rename_i xs e1
    obtain ⟨vs, q, r⟩ := rs.at_ h' e1
    exact ⟨vs, q, List.getElem?_eq_none_iff.mp (r.none_of (Option.some.inj e))⟩
  · cases e
  · rename_i xs e1
    obtain ⟨vs, q, r⟩ := rs.at_ h' e1
    obtain ⟨y, e3, ry⟩ := r.get (Option.some.inj e)
    refine ⟨⟨vs, y, q, e3⟩, fun x H' q' => ?_⟩
    obtain ⟨q1, q2⟩ := q'
    subst q1
    have q3 := q2 vs q
    rw [e3] at q3
    cases q3
    exact ⟨.refl, rs, ry⟩
  · cases e
theorem itEnm {l : Nat} {a : Addr} (h : μ0[l]? = some a) : ItOk g μ0 H0 (.enm l) (Ite g.K a) := by
  intro μ S H i hp hl rs
  have h' := hp.get h
  refine ⟨fun e => ?_, fun v e => ?_⟩ <;> (unfold nth at e; dsimp only at e; split at e)
  · rename_i xs e1
    obtain ⟨vs, q, r⟩ := rs.at_ h' e1
    split at e
    · cases e
    · rename_i e2
      exact ⟨vs, q, List.getElem?_eq_none_iff.mp (r.none_of e2)⟩
  · cases e
  · rename_i xs e1
    obtain ⟨vs, q, r⟩ := rs.at_ h' e1
    split at e
    · rename_i w e2
      obtain ⟨y, e3, ry⟩ := r.get e2
      cases e
      refine ⟨⟨vs, y, q, e3⟩, fun x H' q' => ?_⟩
      obtain ⟨T, y', rfl, hT, rfl, q2⟩ := q'
      have q3 := q2 vs q
      rw [e3] at q3
      cases q3
      exact ⟨.upd (.none hT), rs.laid hT, .newT hT (.cons (.int _) (.cons ry .nil))⟩
    · cases e
  · cases e
theorem itZip {l k : Nat} {a b : Addr} (h : μ0[l]? = some a) (h2 : μ0[k]? = some b) : ItOk g μ0 H0 (.zip l k) (Itz g.K a b) := by
  intro μ S H i hp hl rs
  have h' := hp.get h
  have h2' := hp.get h2
  refine ⟨fun e => ?_, fun v e => ?_⟩ <;> (unfold nth at e; dsimp only at e; split at e)
  · rename_i xs ys e1 e1'
    obtain ⟨vs, q, r⟩ := rs.at_ h' e1
    obtain ⟨ws, q', r'⟩ := rs.at_ h2' e1'
    refine ⟨vs, ws, q, q', ?_⟩
    split at e
    · cases e
    · rename_i hno
      cases e2 : xs[i]? with
      | none => exact .inl (List.getElem?_eq_none_iff.mp (r.none_of e2))
      | some x =>
        cases e3 : ys[i]? with
        | none => exact .inr (List.getElem?_eq_none_iff.mp (r'.none_of e3))
        | some y => exact (hno x y e2 e3).elim
  · cases e
  · rename_i xs ys e1 e1'
    obtain ⟨vs, q, r⟩ := rs.at_ h' e1
    obtain ⟨ws, q', r'⟩ := rs.at_ h2' e1'
    split at e
    · rename_i x y e2 e3
      obtain ⟨x', f2, rx⟩ := r.get e2
      obtain ⟨y', f3, ry⟩ := r'.get e3
      cases e
      refine ⟨⟨vs, ws, x', y', q, q', f2, f3⟩, fun z H' q'' => ?_⟩
      obtain ⟨T, x2, y2, rfl, hT, rfl, k1, k2⟩ := q''
      have z1 := k1 vs q
      have z2 := k2 ws q'
      rw [f2] at z1
      rw [f3] at z2
      cases z1; cases z2
      exact ⟨.upd (.none hT), rs.laid hT, .newT hT (.cons rx (.cons ry .nil))⟩
    · cases e
  · cases e
end

abbrev IF := Env' → Store → R Src
def tEvI (g : G) (W : WX) (f : IF) : TI := fun σ H R => ∃ μ ρ S, RE g.K μ H ρ σ ∧ RS g μ S H ∧ Post g (wx g W σ) μ H (ItOk g) (f ρ S) R
abbrev SI (X : Cx) (g : G) (W : WX) (tg e : Expr) (f : IF) : Prop := PI X tg e (tEvI g W f)
theorem PIimp {X : Cx} {tg e : Expr} {t t' : TI} (h : PI X tg e t) (i : ∀ σ H Q, t' σ H Q → t σ H Q) : PI X tg e t' := ⟨fun pins s σ H R I q => h.run pins s σ H R I (i _ _ _ q)⟩

section
variable {X : Cx} {g : G} {W : WX} {pos : Pos} {a b c tg : Expr} {fa fb fc : EF}
/-- a list, a tuple or a text, whatever comes -/
def iAny (K : PySem.W.Frag) (te : TE) : TI := fun σ H R => te σ H fun x H1 => (∃ a, x = .ref a ∧ (∃ xs, SqL K H1 a xs) ∧ R (Itl K a) H1) ∨ (∃ a, x = .ref a ∧ (∃ xs, SqT K H1 a xs) ∧ R (Itt K a) H1) ∨ ∃ s, x = .str s ∧ R (Its s) H1
theorem oneIt {pins : List (Addr × Obj)} {σ : St} {H1 : Hp} {R : It → Hp → Prop} {s1 : Shared} {ob : Obj} {J : It} {tn : Nat → Heap → Prop} (I : Inv X pins σ H1 s1)
    (T : Turn X.prog X.w X.K tg J [s1.heap.objs.size] s1.heap.objs.size tn) (t0 : tn 0 (s1.heap.push ob)) (q : R J H1) : PIE X pins σ tg R (.ref s1.heap.objs.size) { s1 with heap := s1.heap.push ob } := by
  have kept := I.kept (t' := s1.toks) (h' := s1.heap.push ob) (fun _ _ e => Heap.get?_push_of_some _ e)
  refine ⟨_, _, _, _, _, rfl, kept, T, t0, ?_, q⟩
  intro b hb
  rw [List.mem_singleton] at hb
  rw [hb]
  exact I.fpOk (Nat.le_refl _) (I.hok.fresh (Nat.le_refl _))
theorem pi_any {te : TE} (h : PE X a te) : PI X tg a (iAny X.K te) := by
  constructor
  intro pins s σ H R I q
  refine thn (h.run pins s σ H _ I q) ?_
  rintro v s1 ⟨x, H1, I1, rx, alt⟩
  rcases alt with ⟨p, rfl, ⟨xs, hx⟩, q1⟩ | ⟨p, rfl, ⟨xs, hx⟩, q1⟩ | ⟨z, rfl, q1⟩
  · cases rx
    have ⟨its, rv, hp, _⟩ := I1.list hx
    exact wpAny_pyIter_list hp.isList (oneIt I1 (turn_list p _) ⟨_, Heap.get?_push_size _ rfl, rfl, rfl⟩ q1)
  · cases rx
    have ⟨its, rv, hp, _⟩ := I1.tuple hx
    have hp' : s1.heap.IsTuple p its.toArray := hp
    exact wpAny_pyIter_tuple hp' (oneIt I1 (turn_tuple p _) ⟨_, Heap.get?_push_size _ rfl, rfl, rfl⟩ q1)
  · obtain ⟨t, rfl⟩ := rx
    by_cases asc : z.cps.all (· < 128) = true
    · exact wpAny_pyIter_ascii asc (oneIt I1 (turn_str _ z t "str_ascii_iterator" (.inl rfl)) ⟨_, Heap.get?_push_size _ rfl, rfl, rfl⟩ q1)
    · have wide : z.cps.all (· < 128) = false := by cases h : z.cps.all (· < 128) with | true => exact absurd h asc | false => rfl
      exact wpAny_pyIter_wide wide (oneIt I1 (turn_str _ z t "str_iterator" (.inr rfl)) ⟨_, Heap.get?_push_size _ rfl, rfl, rfl⟩ q1)
/-- for .. in a -/
def srcP (v : PV) (S : Store) : Option Src := match v with
  | .tup xs => some (.seq xs)
  | .str s => some (.seq (s.map fun c => .str [c]))
  | .loc l => match listAt S l with
    | some _ => some (.ref l)
    | none => none
  | _ => none
def iOf (a : EF) : IF := fun ρ S => (a ρ S).bind fun v S1 => match srcP v S1 with
  | some s => .ok s S1
  | none => .bad
theorem si_any (hK : X.K = g.K) (ha : SE X g W a fa) : SI X g W tg a (iOf fa) :=
  PIimp (pi_any ha) fun σ H R ⟨μ, ρ, S, re, rs, p⟩ => by
    refine ⟨μ, ρ, S, re, rs, (Post.bind p).imp fun x H1 ⟨μ1, v, S1, p1, l1, rs1, rv, q⟩ => ?_⟩
    unfold srcP at q
    split at q
    · rename_i s e
      rw [hK]
      split at e
      · cases e
        cases rv with
        | tup h1 r1 => exact .inr (.inl ⟨_, rfl, ⟨_, h1⟩, Post.here q rs1 (itTup h1 r1)⟩)
      · cases e
        cases rv
        exact .inr (.inr ⟨_, rfl, Post.here q rs1 itStr⟩)
      · split at e
        · rename_i e1
          cases e
          cases rv with
          | loc h1 =>
            obtain ⟨vs, q1, _⟩ := rs1.at_ h1 e1
            exact .inl ⟨_, rfl, ⟨vs, q1⟩, Post.here q rs1 (itRef h1)⟩
        · cases e
      · cases e
    · exact q.elim
def small62 (i : Int) : Bool := decide (-(2 ^ 62) ≤ i ∧ i < 2 ^ 62)
abbrev AF := Env' → Store → R (List PV)
def iRg1 (a : AF) : IF := fun ρ S => (a ρ S).bind fun vs S1 => match vs with
  | [.int j] => if small62 j then .ok (.rng 0 j.toNat) S1 else .bad
  | _ => .bad
def iRg2 (a : AF) : IF := fun ρ S => (a ρ S).bind fun vs S1 => match vs with
  | [.int i, .int j] => if small62 i && small62 j then .ok (.rng i (j - i).toNat) S1 else .bad
  | _ => .bad
def iEn (a : AF) : IF := fun ρ S => (a ρ S).bind fun vs S1 => match vs with
  | [.loc l] => match listAt S1 l with
    | some _ => .ok (.enm l) S1
    | none => .bad
  | _ => .bad
/-- pairs of two rows -/
def zipW : List PV → List PV → List PV
  | x :: xs, y :: ys => .tup [x, y] :: zipW xs ys
  | _, _ => []
def iZp (a : AF) : IF := fun ρ S => (a ρ S).bind fun vs S1 => match vs with
  | [.loc l, .loc k] => match listAt S1 l, listAt S1 k with
    | some _, some _ => .ok (.zip l k) S1
    | _, _ => .bad
  | [.tup xs, .tup ys] => .ok (.seq (zipW xs ys)) S1
  | _ => .bad
variable {fs : AF}
theorem small62_of {i : Int} (h : small62 i = true) : -(2 ^ 62) ≤ i ∧ i < 2 ^ 62 := of_decide_eq_true h
theorem iOne {k : List PV → Store → R Src} {σ : St} {H : Hp} {Q : It → Hp → Prop} {r : List V → Hp → Prop} (h : tEvI g W (fun ρ S => (fs ρ S).bind fun v S1 => k v S1) σ H Q)
    (hr : ∀ μ vs S xs H2, RS g μ S H2 → Rps g.K μ H2 vs xs → Post g (wx g W σ) μ H2 (ItOk g) (k vs S) Q → r xs H2) : tEvA g W fs σ H fun x H1 => r x H1 := by
  obtain ⟨μ, ρ, S, re, rs, p⟩ := h
  exact ⟨μ, ρ, S, re, rs, (Post.bind p).imp fun x H1 ⟨μ1, v, S1, p1, l1, rs1, rv, q⟩ => hr μ1 v S1 x H1 rs1 rv q⟩
theorem si_rg1 {p : Pos} (hg : Gl X "range") (hm : X.mg "range" = none) (ha : SA X g W [a] fs) (hs : starEach [a] X.env = [(false, eval a X.env)] := by rfl) : SI X g W tg (.Call (.Name "range" p) [a] [] pos) (iRg1 fs) :=
  PIimp (pi_range1 hg hm ha hs) fun σ H R h => iOne h fun μ vs S xs H2 rs rv q => by
    split at q
    · split at q
      · rename_i hj
        obtain ⟨x, rfl, rx⟩ := rv.one
        cases rx
        obtain ⟨h1, h2⟩ := small62_of hj
        exact ⟨_, rfl, h1, h2, Post.here q rs itRng⟩
      · exact q.elim
    · exact q.elim
theorem si_rg2 {p : Pos} (hg : Gl X "range") (hm : X.mg "range" = none) (ha : SA X g W [a, b] fs) (hs : starEach [a, b] X.env = [(false, eval a X.env), (false, eval b X.env)] := by rfl) (hs2 : starEach [b] X.env = [(false, eval b X.env)] := by rfl) : SI X g W tg (.Call (.Name "range" p) [a, b] [] pos) (iRg2 fs) :=
  PIimp (pi_range2 hg hm ha hs hs2) fun σ H R h => iOne h fun μ vs S xs H2 rs rv q => by
    split at q
    · split at q
      · rename_i hj
        rw [Bool.and_eq_true] at hj
        obtain ⟨x, y, rfl, rx, ry⟩ := rv.two
        cases rx; cases ry
        obtain ⟨h1, h2⟩ := small62_of hj.1
        obtain ⟨h3, h4⟩ := small62_of hj.2
        exact ⟨_, _, rfl, ⟨h1, h2, h3, h4⟩, Post.here q rs itRng⟩
      · exact q.elim
    · exact q.elim
theorem si_enm {p tpos : Pos} {elts : List Expr} {kk : Nat} (hK : X.K = g.K) (hg : Gl X "enumerate") (hm : X.mg "enumerate" = none) (ha : SA X g W [a] fs) (hs : starEach [a] X.env = [(false, eval a X.env)] := by rfl) :
    SI X g W (.Tuple elts kk tpos) (.Call (.Name "enumerate" p) [a] [] pos) (iEn fs) :=
  PIimp (pi_enum hg hm ha hs) fun σ H R h => iOne h fun μ vs S xs H2 rs rv q => by
    split at q
    · split at q
      · rename_i e1
        obtain ⟨x, rfl, rx⟩ := rv.one
        cases rx with
        | loc h1 =>
          obtain ⟨ws, q1, _⟩ := rs.at_ h1 e1
          rw [hK]
          exact ⟨_, _, rfl, q1, Post.here q rs (itEnm h1)⟩
      · exact q.elim
    · exact q.elim
theorem zipW_get : ∀ (xs ys : List PV) (i : Nat), (zipW xs ys)[i]? = match xs[i]?, ys[i]? with
    | some x, some y => some (.tup [x, y])
    | _, _ => none
  | [], ys, i => by simp [zipW]
  | x :: xs, [], i => by
    simp only [zipW, List.getElem?_nil]
    split
    · rename_i h; cases h
    · rfl
  | x :: xs, y :: ys, 0 => by simp [zipW]
  | x :: xs, y :: ys, i + 1 => by
    simp only [zipW, List.getElem?_cons_succ]
    exact zipW_get xs ys i
theorem itZipT {μ0 : List Addr} {H0 : Hp} {a b : Addr} {vs ws : List V} {xs ys : List PV} (h : SqT g.K H0 a vs) (r : Rps g.K μ0 H0 xs vs) (h2 : SqT g.K H0 b ws) (r2 : Rps g.K μ0 H0 ys ws) : ItOk g μ0 H0 (.seq (zipW xs ys)) (RZ.ItzT g.K a b) := by
  intro μ S H i hp hl rs
  have h' := hl.tup _ _ h
  have r' := r.mono hp hl
  have h2' := hl.tup _ _ h2
  have r2' := r2.mono hp hl
  refine ⟨fun e => ?_, fun v e => ?_⟩ <;> (have e2 := Option.some.inj e; rw [zipW_get] at e2)
  · refine ⟨vs, ws, h', h2', ?_⟩
    cases e3 : xs[i]? with
    | none => exact .inl (List.getElem?_eq_none_iff.mp (r'.none_of e3))
    | some x =>
      cases e4 : ys[i]? with
      | none => exact .inr (List.getElem?_eq_none_iff.mp (r2'.none_of e4))
      | some y => rw [e3, e4] at e2; cases e2
  · split at e2
    · rename_i x y e3 e4
      cases e2
      obtain ⟨x', f2, rx⟩ := r'.get e3
      obtain ⟨y', f3, ry⟩ := r2'.get e4
      refine ⟨⟨vs, ws, x', y', h', h2', f2, f3⟩, fun z H' q'' => ?_⟩
      obtain ⟨T, x2, y2, rfl, hT, rfl, k1, k2⟩ := q''
      have z1 := k1 vs h'
      have z2 := k2 ws h2'
      rw [f2] at z1
      rw [f3] at z2
      cases z1; cases z2
      exact ⟨.upd (.none hT), rs.laid hT, .newT hT (.cons rx (.cons ry .nil))⟩
    · cases e2
theorem si_zip {p tpos : Pos} {elts : List Expr} {kk : Nat} (hK : X.K = g.K) (hg : Gl X "zip") (hm : X.mg "zip" = none) (ha : SA X g W [a, b] fs)
    (hs : starEach [a, b] X.env = (false, eval a X.env) :: starEach [b] X.env := by rfl) (hpl : (backTo pos (starEach [b] X.env)).any (·.1) = false := by rfl) :
    SI X g W (.Tuple elts kk tpos) (.Call (.Name "zip" p) [a, b] [] pos) (iZp fs) :=
  PIimp (RZ.pi_zipA hg hm ha hs hpl) fun σ H R h => iOne h fun μ vs S xs H2 rs rv q => by
    rw [hK]
    split at q
    · split at q
      · rename_i e1 e2
        obtain ⟨x, y, rfl, rx, ry⟩ := rv.two
        cases rx with
        | loc h1 =>
          cases ry with
          | loc h2 =>
            obtain ⟨vs, q1, _⟩ := rs.at_ h1 e1
            obtain ⟨ws, q2, _⟩ := rs.at_ h2 e2
            exact ⟨_, _, vs, ws, rfl, .inl ⟨q1, q2, Post.here q rs (itZip h1 h2)⟩⟩
      · exact q.elim
    · obtain ⟨x, y, rfl, rx, ry⟩ := rv.two
      cases rx with
      | tup h1 r1 =>
        cases ry with
        | tup h2 r2 => exact ⟨_, _, _, _, rfl, .inr ⟨h1, h2, Post.here q rs (itZipT h1 r1 h2 r2)⟩⟩
    · exact q.elim

/-! ### for, while -/
def forL (src : Src) (t : Tg) (b : SF) : Nat → Nat → SF
  | 0, _ => fun _ _ => .bad
  | n + 1, i => fun ρ S => match nth src i S with
    | none => .bad
    | some none => .ok (.nx ρ) S
    | some (some v) => match t v ρ S with
      | none => .bad
      | some (ρ1, S1) => match b ρ1 S1 with
        | .ok (.nx ρ2) S2 => forL src t b n (i + 1) ρ2 S2
        | .ok (.ct ρ2) S2 => forL src t b n (i + 1) ρ2 S2
        | .ok (.bk ρ2) S2 => .ok (.nx ρ2) S2
        | r => r
def sFor (it : IF) (t : Tg) (b : SF) : SF := fun ρ S => bindE (it ρ S) ρ fun src S1 => forL src t b (fuelOf src S1) 0 ρ S1
theorem ss_for {iter : Expr} {body : List Stmt} {t : Tg} {f : SF} {fi : IF} (hp : PassesOwn (model X.prog X.w) X.A X.env X.xe) (hc : X.calm = true) (hi : SI X g W tg iter fi) (hg : SG X g tg t) (hb : SSs X g W body f)
    (hs : ∀ x, foldedSetIterable iter X.env x = pure x := by intro _; rfl) : SS X g W (.For tg iter body [] pos) (sFor fi t f) :=
  PSimp (ps_for hp hc hi hg hb hs) fun D σ H ⟨μ, ρ, S, re, rs, p⟩ => by
    refine ⟨μ, ρ, S, re, rs, (PostS.bindE p re).imp fun J H1 ⟨μ1, src, S1, p1, l1, rs1, rel, q⟩ => ?_⟩
    refine ⟨fun i m σ' H' => ∃ μ' ρ' S', Pre μ1 μ' ∧ Le g.K H1 H' ∧ RE g.K μ' H' ρ' σ' ∧ RS g μ' S' H' ∧ PostS g W μ' H' (forL src t f m i ρ' S') D, ⟨_, μ1, ρ, S1, .refl, .refl, re.mono p1 l1, rs1, q⟩, ?_⟩
    rintro i m σ' H' ⟨μ', ρ', S', p', l', re', rs', q'⟩
    cases m with
    | zero => exact q'.elim
    | succ m =>
      unfold forL at q'
      split at q'
      · exact q'.elim
      · rename_i e
        exact .inl ⟨(rel μ' S' H' i p' l' rs').1 e, PostS.nx q' rs' re'⟩
      · rename_i v e
        obtain ⟨go, yld⟩ := (rel μ' S' H' i p' l' rs').2 v e
        refine .inr ⟨go, _, fun σ2 H2 h => ⟨m, Nat.lt_succ_self m, h⟩, fun x H2 y => ?_⟩
        obtain ⟨l2, rs2, rv⟩ := yld x H2 y
        split at q'
        · exact q'.elim
        · rename_i ρ1 S2 e1
          refine ⟨μ', ρ', S', v, ρ1, S2, re'.mono .refl l2, rs2, rv, e1, fun μ3 σ3 H3 p3 l3 rs3 re3 => ⟨μ3, ρ1, S2, re3, rs3, ?_⟩⟩
          have q3 := PostS.later q' p3 (l2.trans l3)
          have pp := p'.trans p3
          have ll := l'.trans (l2.trans l3)
          cases eb : f ρ1 S2 with
          | ok fl S4 =>
            rw [eb] at q3
            cases fl with
            | nx ρ2 => exact fun μ4 σ4 H4 p4 l4 rs4 re4 => ⟨μ4, ρ2, S4, pp.trans p4, ll.trans l4, re4, rs4, PostS.later (r := forL src t f m (i + 1) ρ2 S4) q3 p4 l4⟩
            | rt v => exact q3
            | bk ρ2 => exact q3
            | ct ρ2 => exact fun μ4 σ4 H4 p4 l4 rs4 re4 => ⟨μ4, ρ2, S4, pp.trans p4, ll.trans l4, re4, rs4, PostS.later (r := forL src t f m (i + 1) ρ2 S4) q3 p4 l4⟩
          | exc c ρ2 S4 => rw [eb] at q3; exact q3
          | bad => rw [eb] at q3; exact q3
def whL (t : BF) (b : SF) : Nat → SF
  | 0 => fun _ _ => .bad
  | n + 1 => fun ρ S => bindE (t ρ S) ρ fun c S1 => if c then match b ρ S1 with
      | .ok (.nx ρ2) S2 => whL t b n ρ2 S2
      | .ok (.ct ρ2) S2 => whL t b n ρ2 S2
      | .ok (.bk ρ2) S2 => .ok (.nx ρ2) S2
      | r => r
    else .ok (.nx ρ) S1
theorem ss_while {body : List Stmt} {t : BF} {f : SF} (n : Nat) (hp : PassesOwn (model X.prog X.w) X.A X.env X.xe) (hc : ST X g W a t) (hb : SSs X g W body f) : SS X g W (.While a body [] pos) (whL t f n) :=
  PSimp (ps_while hp hc hb) fun D σ H ⟨μ, ρ, S, re, rs, p⟩ => by
    refine ⟨fun m σ' H' => ∃ μ' ρ' S', RE g.K μ' H' ρ' σ' ∧ RS g μ' S' H' ∧ PostS g W μ' H' (whL t f m ρ' S') D, ⟨n, μ, ρ, S, re, rs, p⟩, ?_⟩
    rintro m σ' H' ⟨μ', ρ', S', re', rs', q'⟩
    cases m with
    | zero => exact q'.elim
    | succ m =>
      unfold whL at q'
      refine ⟨μ', ρ', S', re', rs', (PostS.bindE q' re').imp fun b H1 ⟨μ1, c, S1, p1, l1, rs1, rv, q⟩ => ?_⟩
      subst rv
      have re1 := re'.mono p1 l1
      cases c with
      | false => exact PostS.nx q rs1 re1
      | true =>
        rw [if_pos rfl] at q ⊢
        refine ⟨_, fun σ2 H2 h => ⟨m, Nat.lt_succ_self m, h⟩, μ1, ρ', S1, re1, rs1, ?_⟩
        cases eb : f ρ' S1 with
        | ok fl S4 =>
          rw [eb] at q
          cases fl with
          | nx ρ2 => exact fun μ4 σ4 H4 p4 l4 rs4 re4 => ⟨μ4, ρ2, S4, re4, rs4, PostS.later (r := whL t f m ρ2 S4) q p4 l4⟩
          | rt v => exact q
          | bk ρ2 => exact q
          | ct ρ2 => exact fun μ4 σ4 H4 p4 l4 rs4 re4 => ⟨μ4, ρ2, S4, re4, rs4, PostS.later (r := whL t f m ρ2 S4) q p4 l4⟩
        | exc c ρ2 S4 => rw [eb] at q; exact q
        | bad => rw [eb] at q; exact q
end
end Ev


/-! Ev: comprehensions. -/
namespace Ev
open PySem PySem.Spec PyProof.Rows L2

abbrev WF : WX := fun _ _ _ _ => False
abbrev BX (X : Cx) (scope : Scope) (s : Shared) (H : Hp) (C : Addr) (cl : List (Str × Addr)) (fp : List Addr) : Cx := X.blk s H scope (compEnvC scope cl C X.env) fp
section
variable {X : Cx} {g : G} {W : WX} {pos : Pos} {a b c tg : Expr} {fa fb fc : EF}
theorem takes_F {X : Cx} : Takes X WF := fun u s' h => by
  obtain ⟨a, B, sI, pins, σ', H', cls, d, _, _, _, _, _, _, _, _, f⟩ := h
  exact f.elim

/-! ### targets in a block: only the block's own names are written -/
def tgc (g : G) (vs : List Nat) (t : Tg) : TG := fun v σ H Q => ∃ μ ρ S w ρ' S', RE g.K μ H ρ σ ∧ RS g μ S H ∧ Rp g.K μ H w v ∧ t w ρ S = some (ρ', S') ∧ ∀ σ', RE g.K μ H ρ' σ' → RS g μ S' H → wipe σ' vs = wipe σ vs → Q σ' H
abbrev SGc (X : Cx) (g : G) (vs : List Nat) (tg : Expr) (t : Tg) : Prop := PG X tg (tgc g vs t)
def tgcs (g : G) (vs : List Nat) (t : Tgs) : TGs := fun v σ H Q => ∃ μ ρ S w ρ' S', RE g.K μ H ρ σ ∧ RS g μ S H ∧ Rps g.K μ H w v ∧ t w ρ S = some (ρ', S') ∧ ∀ σ', RE g.K μ H ρ' σ' → RS g μ S' H → wipe σ' vs = wipe σ vs → Q σ' H
abbrev SGcs (X : Cx) (g : G) (vs : List Nat) (tg : List Expr) (t : Tgs) : Prop := PGs X tg (tgcs g vs t)
theorem wipe_none {σ : St} {i : Nat} : ∀ {vs : List Nat}, i ∈ vs → (wipe σ vs)[i]? = some none ∨ (wipe σ vs)[i]? = none
  | [], h => by cases h
  | v :: vs, h => by
    unfold wipe
    by_cases hi : v = i
    · subst hi
      by_cases hv : v < (wipe σ vs).length
      · exact .inl (List.getElem?_set_self hv)
      · exact .inr (List.getElem?_eq_none (by simpa using hv))
    · rw [List.getElem?_set_ne hi]
      rcases List.mem_cons.mp h with e | e
      · exact absurd e.symm hi
      · exact wipe_none e
theorem wipe_get {σ : St} {i : Nat} : ∀ {vs : List Nat}, i ∉ vs → (wipe σ vs)[i]? = σ[i]?
  | [], _ => rfl
  | v :: vs, h => by
    unfold wipe
    have h1 : v ≠ i := fun e => h (by simp [e])
    rw [List.getElem?_set_ne h1]
    exact wipe_get fun e => h (List.mem_cons_of_mem _ e)
theorem wipe_set {σ : St} {i : Nat} {x : Option V} {vs : List Nat} (h : i ∈ vs) : wipe (σ.set i x) vs = wipe σ vs := by
  apply List.ext_getElem?
  intro j
  by_cases hj : j ∈ vs
  · have l : (wipe (σ.set i x) vs).length = (wipe σ vs).length := by rw [wipe_length, wipe_length, List.length_set]
    rcases wipe_none (σ := σ) hj with e | e <;> rcases wipe_none (σ := σ.set i x) hj with e' | e'
    · rw [e, e']
    · rw [List.getElem?_eq_none_iff, l, ← List.getElem?_eq_none_iff] at e'
      rw [e] at e'; cases e'
    · rw [List.getElem?_eq_none_iff, ← l, ← List.getElem?_eq_none_iff] at e
      rw [e] at e'; cases e'
    · rw [e, e']
  · rw [wipe_get hj, wipe_get hj]
    have : i ≠ j := fun z => hj (z ▸ h)
    rw [List.getElem?_set_ne this]
theorem wipe_wipe {σ : St} {vs : List Nat} : wipe (wipe σ vs) vs = wipe σ vs := by
  apply List.ext_getElem?
  intro j
  by_cases hj : j ∈ vs
  · have l : (wipe (wipe σ vs) vs).length = (wipe σ vs).length := by rw [wipe_length]
    rcases wipe_none (σ := σ) hj with e | e <;> rcases wipe_none (σ := wipe σ vs) hj with e' | e'
    · rw [e, e']
    · rw [List.getElem?_eq_none_iff, l, ← List.getElem?_eq_none_iff] at e'
      rw [e] at e'; cases e'
    · rw [List.getElem?_eq_none_iff, ← l, ← List.getElem?_eq_none_iff] at e
      rw [e] at e'; cases e'
    · rw [e, e']
  · rw [wipe_get hj]
theorem sgc_name {i : Nat} {x : Str} {vs : List Nat} (hN : X.N.Nodup) (hi : X.N[i]? = some x) (hv : i ∈ vs) (hx : Loc X.env.scope x) (hf : X.fn x = true ∨ X.env.scope.names.lookup x = some .local := by first | exact .inl rfl | exact .inr rfl | assumption) : SGc X g vs (.Name x pos) (tgN i) :=
  PGimp (pg_name hN hi hx hf) fun v σ H Q ⟨μ, ρ, S, w, ρ', S', re, rs, rv, e, k⟩ => by
    cases e
    exact k _ (re.set rv i) rs (wipe_set hv)
theorem sgc_nil {vs : List Nat} : SGcs X g vs [] tgNil := PGsimp pgs_nil fun v σ H Q ⟨μ, ρ, S, w, ρ', S', re, rs, rv, e, k⟩ => by
  unfold tgNil at e
  split at e
  · cases e; cases rv; exact ⟨rfl, k _ re rs rfl⟩
  · cases e
theorem sgc_cons {es : List Expr} {t : Tg} {u : Tgs} {vs : List Nat} (h1 : SGc X g vs a t) (h2 : SGcs X g vs es u) (hs : (assignEach (a :: es) X.env).map (·.2) = assign a X.env :: (assignEach es X.env).map (·.2) := by rfl) : SGcs X g vs (a :: es) (tgCons t u) :=
  PGsimp (pgs_cons h1 h2 hs) fun v σ H Q ⟨μ, ρ, S, w, ρ', S', re, rs, rv, e, k⟩ => by
    unfold tgCons at e
    split at e
    · rename_i w1 wr
      split at e
      · rename_i ρ1 S1 e1
        cases rv with
        | cons r1 r2 =>
          refine ⟨_, _, rfl, μ, ρ, S, w1, ρ1, S1, re, rs, r1, e1, fun σ' re' rs' hw => ?_⟩
          exact ⟨μ, ρ1, S1, wr, ρ', S', re', rs', r2, e, fun σ2 re2 rs2 hw2 => k σ2 re2 rs2 (hw2.trans hw)⟩
      · cases e
    · cases e
theorem sgc_tup {es : List Expr} {k n : Nat} {u : Tgs} {vs : List Nat} (hK : X.K = g.K) (hc : X.calm = true) (h : SGcs X g vs es u) (hn : (assignEach es X.env).length = n := by rfl) (hst : (assignEach es X.env).findIdx? (·.1) = none := by rfl) : SGc X g vs (.Tuple es k pos) (tgT n u) :=
  PGimp (pg_tup hc h hn hst) fun v σ H Q ⟨μ, ρ, S, w, ρ', S', re, rs, rv, e, k⟩ => by
    unfold tgT at e
    split at e
    · split at e
      · rename_i hl
        cases rv with
        | tup h1 r1 => exact ⟨_, _, rfl, by rw [hK]; exact h1, by rw [← r1.length]; exact hl, μ, ρ, S, _, ρ', S', re, rs, r1, e, k⟩
      · cases e
    · cases e
/-- the tests of a block -/
abbrev STs (X : Cx) (g : G) (es : List Expr) (f : BF) : Prop := PTs X es (tEvB g WF f)
def bYes : BF := fun _ S => .ok true S
theorem PTsimp {e : List Expr} {t t' : TT} (h : PTs X e t) (i : ∀ σ H Q, t' σ H Q → t σ H Q) : PTs X e t' := ⟨fun pins s σ H Q I q => h.run pins s σ H Q I (i _ _ _ q)⟩
theorem sts_nil : STs X g [] bYes := PTsimp pts_nil fun σ H Q ⟨μ, ρ, S, re, rs, p⟩ => Post.here p rs rfl
theorem sts_one {ft : BF} (h : ST X g WF a ft) : STs X g [a] ft := pts_one h

def wipeP (ρ : Env') : List Nat → Env'
  | [] => ρ
  | v :: vs => (wipeP ρ vs).set v none
theorem RE.unset {K : PySem.W.Frag} {μ : List Addr} {H : Hp} {ρ : Env'} {σ : St} (h : RE K μ H ρ σ) (i : Nat) (o : Option V) : RE K μ H (ρ.set i none) (σ.set i o) := by
  refine ⟨by simp [h.len], fun j w e => ?_⟩
  by_cases hj : i = j
  · subst hj
    by_cases hl : i < ρ.length
    · rw [List.getElem?_set_self hl] at e; cases e
    · rw [List.getElem?_eq_none (by simpa using hl)] at e; cases e
  · rw [List.getElem?_set_ne hj] at e
    rw [List.getElem?_set_ne hj]
    exact h.at_ j w e
theorem RE.wipe {K : PySem.W.Frag} {μ : List Addr} {H : Hp} {ρ : Env'} {σ : St} (h : RE K μ H ρ σ) : ∀ (vs : List Nat), RE K μ H (wipeP ρ vs) (L2.wipe σ vs)
  | [] => h
  | v :: vs => (RE.wipe h vs).unset v none

/-! ### [.. for .. in .. if ..] -/
def lcL (src : Src) (t : Tg) (tt : BF) (te : EF) (d : Nat) (ρ : Env') : Nat → Nat → Store → R PV
  | 0, _, _ => .bad
  | n + 1, i, S => match nth src i S with
    | none => .bad
    | some none => .ok (.loc d) S
    | some (some v) => match t v ρ S with
      | none => .bad
      | some (ρ1, S1) => match tt ρ1 S1 with
        | .ok true S2 => match te ρ1 S2 with
          | .ok y S3 => match S3[d]? with
            | some (.lst acc) => if acc.length < LINE then lcL src t tt te d ρ n (i + 1) (S3.set d (.lst (acc ++ [y]))) else .bad
            | _ => .bad
          | _ => .bad
        | .ok false S2 => lcL src t tt te d ρ n (i + 1) S2
        | _ => .bad
def eLc (it : IF) (t : Tg) (tt : BF) (te : EF) (vs : List Nat) : EF := fun ρ S => (it ρ S).bind fun src S1 => lcL src t tt te S1.length (wipeP ρ vs) (fuelOf src S1) 0 (S1 ++ [.lst []])
theorem lc_sound {wi : IF} {t : Tg} {tt : BF} {te : EF} {vs : List Nat} {σ : St} {H : Hp} {Q : VK} (h : tEv g W (eLc wi t tt te vs) σ H Q) : tLc (tEvI g W wi) (tgc g vs t) (tEvB g WF tt) (tEv g WF te) vs σ H Q := by
  obtain ⟨μ, ρ, S, re, rs, p⟩ := h
  refine ⟨μ, ρ, S, re, rs, (Post.bind p).imp fun J H1 ⟨μ1, src, S1, p1, l1, rs1, rel, q⟩ => ?_⟩
  intro D hD
  have rs2 := rs1.newL hD (xs := []) .nil
  have pre2 : Pre μ1 (μ1 ++ [D]) := ⟨_, rfl⟩
  have le2 : Le g.K H1 (upd H1 D (.lst [])) := .upd (.none hD)
  have dAt : (μ1 ++ [D])[S1.length]? = some D := by rw [← rs1.len, List.getElem?_append_right (Nat.le_refl _), Nat.sub_self]; rfl
  have re2 := ((re.mono p1 l1).mono pre2 le2).wipe vs
  refine ⟨fun i m H' => ∃ μ' S', Pre (μ1 ++ [D]) μ' ∧ Le g.K (upd H1 D (.lst [])) H' ∧ RS g μ' S' H' ∧ PostE g W σ μ' H' (lcL src t tt te S1.length (wipeP ρ vs) m i S') Q,
    ⟨_, _, _, .refl, .refl, rs2, q.later pre2 le2⟩, ?_⟩
  rintro i m H' ⟨μ', S', p', l', rs', q'⟩
  cases m with
  | zero => exact q'.elim
  | succ m =>
    unfold lcL at q'
    split at q'
    · exact q'.elim
    · rename_i e
      exact .inl ⟨(rel μ' S' H' i (pre2.trans p') (le2.trans l') rs').1 e, Post.here q' rs' (.loc (p'.get dAt))⟩
    · rename_i v e
      obtain ⟨go, yld⟩ := (rel μ' S' H' i (pre2.trans p') (le2.trans l') rs').2 v e
      refine .inr ⟨go, _, fun H2 h => ⟨m, Nat.lt_succ_self m, h⟩, fun x H2 y => ?_⟩
      obtain ⟨l2, rs2', rv⟩ := yld x H2 y
      have q2 := q'.later (.refl (μ := μ')) l2
      split at q2
      · exact q2.elim
      · rename_i ρ1 S2 e1
        refine ⟨μ', wipeP ρ vs, S', v, ρ1, S2, re2.mono p' (l'.trans l2), rs2', rv, e1, fun σ2 re3 rs3 hw => ⟨hw.trans wipe_wipe, μ', ρ1, S2, re3, rs3, ?_⟩⟩
        cases et : tt ρ1 S2 with
        | bad => rw [et] at q2; exact q2.elim
        | exc c S3 => rw [et] at q2; exact q2.elim
        | ok b S3 =>
          rw [et] at q2
          intro μ3 b' H3 p3 l3 rs3' hb
          subst hb
          cases b with
          | false =>
            rw [if_neg Bool.false_ne_true]
            exact ⟨μ3, S3, p'.trans p3, l'.trans (l2.trans l3), rs3', q2.later p3 l3⟩
          | true =>
            rw [if_pos rfl]
            refine ⟨μ3, ρ1, S3, re3.mono p3 l3, rs3', ?_⟩
            have q3 := q2.later p3 l3
            dsimp only at q3
            cases ee : te ρ1 S3 with
            | bad => rw [ee] at q3; exact q3.elim
            | exc c S4 => rw [ee] at q3; exact q3.elim
            | ok y S4 =>
              rw [ee] at q3
              intro μ4 y' H4 p4 l4 rs4 ry
              dsimp only at q3
              split at q3
              · rename_i acc e4
                split at q3
                · rename_i hl
                  have hD4 := (p'.trans (p3.trans p4)).get dAt
                  obtain ⟨accv, hacc, racc⟩ := rs4.lst hD4 e4
                  have w := Wr.lst hacc
                  refine ⟨accv, hacc, by rw [← racc.length, line_eq]; exact hl, μ4, _, p'.trans (p3.trans p4), l'.trans (l2.trans (l3.trans (l4.trans (.upd w)))), rs4.put (so := .lst (acc ++ [y])) hD4 e4 rfl rfl ⟨_, upd_same, (racc.snoc ry).mono .refl (.upd w)⟩, q3.later p4 (l4.trans (.upd w))⟩
                · exact q3.elim
              · exact q3.elim
theorem se_lc {elt iter : Expr} {ifs : List Expr} {scope : Scope} {own : List (Str × Nat)} {wi : IF} {t : Tg} {tt : BF} {te : EF} (hc : X.calm = true) (hN : X.N.Nodup) (hi : SI X g W tg iter wi) (ok : BlkOk X.N X.env.scope scope own)
    (hg : ∀ s H C cl fp, SGc (BX X scope s H C cl fp) g (own.map (·.2)) tg t) (ht : ∀ s H C cl fp, STs (BX X scope s H C cl fp) g ifs tt) (he : ∀ s H C cl fp, SE (BX X scope s H C cl fp) g WF elt te)
    (hs : ∀ x, foldedSetIterable iter X.env x = pure x := by intro _; rfl) : SE X g W (.ListComp elt [⟨tg, iter, ifs, 0⟩] scope pos) (eLc wi t tt te (own.map (·.2))) :=
  PEimp (pe_lc hc hN hi ok hg ht he hs) fun σ H Q h => lc_sound h
theorem tAsg_of {te : TE} {f : EF} {t : Tg} {gt : TG} (h1 : ∀ σ H Q, tEv g W f σ H Q → te σ H Q) (h2 : ∀ v σ H Q, tgv g t v σ H Q → gt v σ H Q) (D : Ends) (σ : St) (H : Hp) (h : tSv g W (sAsg f t) D σ H) : te σ H fun x H1 => gt x σ H1 D.nx := by
  refine h1 σ H _ ?_
  obtain ⟨μ, ρ, S, re, rs, p⟩ := asgP h
  exact ⟨μ, ρ, S, re, rs, p.imp fun x H1 q => h2 _ _ _ _ q⟩
theorem gName_of {i : Nat} (v : V) (σ : St) (H : Hp) (Q : St → Hp → Prop) (h : tgv g (tgN i) v σ H Q) : gName i v σ H Q := by
  obtain ⟨μ, ρ, S, w, ρ', S', re, rs, rv, e, k⟩ := h
  cases e
  exact k μ _ H .refl .refl rs (re.set rv i)
theorem ss_setLc {elt iter : Expr} {ifs : List Expr} {scope : Scope} {own : List (Str × Nat)} {wi : IF} {t : Tg} {tt : BF} {te : EF} {i : Nat} {y : Str} {py spos : Pos} (hc : X.calm = true) (hN : X.N.Nodup) (hy : X.N[i]? = some y) (hyl : X.env.scope.names.lookup y = some .local)
    (hsw : swapsWith (.ListComp elt [⟨tg, iter, ifs, 0⟩] scope pos) (some (.Name y py)) spos.line X.env = pure true) (hi : SI X g W tg iter wi) (ok : BlkOk X.N X.env.scope scope own)
    (hg : ∀ s H C cl fp, SGc (BX X scope s H C cl fp) g (own.map (·.2)) tg t) (ht : ∀ s H C cl fp, STs (BX X scope s H C cl fp) g ifs tt) (he : ∀ s H C cl fp, SE (BX X scope s H C cl fp) g WF elt te)
    (hs : ∀ x, foldedSetIterable iter X.env x = pure x := by intro _; rfl) : SS X g W (.Assign [.Name y py] (.ListComp elt [⟨tg, iter, ifs, 0⟩] scope pos) spos) (sAsg (eLc wi t tt te (own.map (·.2))) (tgN i)) :=
  PSimp (ps_setLc hc hN hy hyl hsw hi ok hg ht he hs) fun D σ H h => tAsg_of (fun σ H Q h => lc_sound h) gName_of D σ H h

/-! ### {..: .. for .. in .. if ..} -/
def dcL (src : Src) (t : Tg) (tt : BF) (tk tv : EF) (d : Nat) (ρ : Env') : Nat → Nat → Store → R PV
  | 0, _, _ => .bad
  | n + 1, i, S => match nth src i S with
    | none => .bad
    | some none => .ok (.loc d) S
    | some (some v) => match t v ρ S with
      | none => .bad
      | some (ρ1, S1) => match tt ρ1 S1 with
        | .ok true S2 => match tk ρ1 S2 with
          | .ok y S3 => match tv ρ1 S3 with
            | .ok z S4 => match S4[d]? with
              | some (.dic kvs) => if keyP y ∧ kvs.length < LINE then dcL src t tt tk tv d ρ n (i + 1) (S4.set d (.dic (putP kvs y z))) else .bad
              | _ => .bad
            | _ => .bad
          | _ => .bad
        | .ok false S2 => dcL src t tt tk tv d ρ n (i + 1) S2
        | _ => .bad
def eDc (it : IF) (t : Tg) (tt : BF) (tk tv : EF) (vs : List Nat) : EF := fun ρ S => (it ρ S).bind fun src S1 => dcL src t tt tk tv S1.length (wipeP ρ vs) (fuelOf src S1) 0 (S1 ++ [.dic []])
theorem dc_sound {wi : IF} {t : Tg} {tt : BF} {tk tv : EF} {vs : List Nat} {σ : St} {H : Hp} {Q : VK} (h : tEv g W (eDc wi t tt tk tv vs) σ H Q) : tDc (tEvI g W wi) (tgc g vs t) (tEvB g WF tt) (tEv g WF tk) (tEv g WF tv) vs σ H Q := by
  obtain ⟨μ, ρ, S, re, rs, p⟩ := h
  refine ⟨μ, ρ, S, re, rs, (Post.bind p).imp fun J H1 ⟨μ1, src, S1, p1, l1, rs1, rel, q⟩ => ?_⟩
  intro D hD
  have pre2 : Pre μ1 (μ1 ++ [D]) := ⟨_, rfl⟩
  have le2 : Le g.K H1 (upd H1 D (.dK [])) := .upd (.none hD)
  have rs2 : RS g (μ1 ++ [D]) (S1 ++ [.dic []]) (upd H1 D (.dK [])) := rs1.push (so := .dic []) hD ⟨[], upd_same, .nil⟩
  have dAt : (μ1 ++ [D])[S1.length]? = some D := by rw [← rs1.len, List.getElem?_append_right (Nat.le_refl _), Nat.sub_self]; rfl
  have re2 := ((re.mono p1 l1).mono pre2 le2).wipe vs
  refine ⟨fun i m H' => ∃ μ' S', Pre (μ1 ++ [D]) μ' ∧ Le g.K (upd H1 D (.dK [])) H' ∧ RS g μ' S' H' ∧ PostE g W σ μ' H' (dcL src t tt tk tv S1.length (wipeP ρ vs) m i S') Q,
    ⟨_, _, _, .refl, .refl, rs2, q.later pre2 le2⟩, ?_⟩
  rintro i m H' ⟨μ', S', p', l', rs', q'⟩
  cases m with
  | zero => exact q'.elim
  | succ m =>
    unfold dcL at q'
    split at q'
    · exact q'.elim
    · rename_i e
      exact .inl ⟨(rel μ' S' H' i (pre2.trans p') (le2.trans l') rs').1 e, Post.here q' rs' (.loc (p'.get dAt))⟩
    · rename_i v e
      obtain ⟨go, yld⟩ := (rel μ' S' H' i (pre2.trans p') (le2.trans l') rs').2 v e
      refine .inr ⟨go, _, fun H2 h => ⟨m, Nat.lt_succ_self m, h⟩, fun x H2 y => ?_⟩
      obtain ⟨l2, rs2', rv⟩ := yld x H2 y
      have q2 := q'.later (.refl (μ := μ')) l2
      split at q2
      · exact q2.elim
      · rename_i ρ1 S2 e1
        refine ⟨μ', wipeP ρ vs, S', v, ρ1, S2, re2.mono p' (l'.trans l2), rs2', rv, e1, fun σ2 re3 rs3 hw => ⟨hw.trans wipe_wipe, μ', ρ1, S2, re3, rs3, ?_⟩⟩
        cases et : tt ρ1 S2 with
        | bad => rw [et] at q2; exact q2.elim
        | exc c S3 => rw [et] at q2; exact q2.elim
        | ok b S3 =>
          rw [et] at q2
          intro μ3 b' H3 p3 l3 rs3' hb
          subst hb
          cases b with
          | false =>
            rw [if_neg Bool.false_ne_true]
            exact ⟨μ3, S3, p'.trans p3, l'.trans (l2.trans l3), rs3', q2.later p3 l3⟩
          | true =>
            rw [if_pos rfl]
            refine ⟨μ3, ρ1, S3, re3.mono p3 l3, rs3', ?_⟩
            have q3 := q2.later p3 l3
            dsimp only at q3
            cases ek : tk ρ1 S3 with
            | bad => rw [ek] at q3; exact q3.elim
            | exc c S4 => rw [ek] at q3; exact q3.elim
            | ok y S4 =>
              rw [ek] at q3
              intro μ4 y' H4 p4 l4 rs4 ry
              refine ⟨μ4, ρ1, S4, (re3.mono p3 l3).mono p4 l4, rs4, ?_⟩
              have q4 := q3.later p4 l4
              dsimp only at q4
              cases ev : tv ρ1 S4 with
              | bad => rw [ev] at q4; exact q4.elim
              | exc c S5 => rw [ev] at q4; exact q4.elim
              | ok z S5 =>
                rw [ev] at q4
                intro μ5 z' H5 p5 l5 rs5 rz
                dsimp only at q4
                split at q4
                · rename_i kvs e4
                  split at q4
                  · rename_i hc
                    have hD5 := (p'.trans (p3.trans (p4.trans p5))).get dAt
                    obtain ⟨ks, hks, rks⟩ := rs5.dic hD5 e4
                    obtain ⟨kk, hk, rfl⟩ := Rk.of ry hc.1
                    have w := Wr.dK hks
                    refine ⟨ks, kk, rfl, hks, by rw [← rks.length, line_eq]; exact hc.2, μ5, _, p'.trans (p3.trans (p4.trans p5)), l'.trans (l2.trans (l3.trans (l4.trans (l5.trans (.upd w))))),
                      rs5.put (so := .dic (putP kvs y z)) hD5 e4 rfl rfl ⟨_, upd_same, (rks.put hk rz).mono .refl (.upd w)⟩, q4.later p5 (l5.trans (.upd w))⟩
                  · exact q4.elim
                · exact q4.elim
variable {kx vx iter : Expr} {ifs : List Expr} {scope : Scope} {own : List (Str × Nat)} {wi : IF} {t : Tg} {tt : BF} {tk tv : EF}
theorem se_dc (hc : X.calm = true) (hN : X.N.Nodup) (hi : SI X g W tg iter wi) (ok : BlkOk X.N X.env.scope scope own)
    (hg : ∀ s H C cl fp, SGc (BX X scope s H C cl fp) g (own.map (·.2)) tg t) (ht : ∀ s H C cl fp, STs (BX X scope s H C cl fp) g ifs tt) (hk : ∀ s H C cl fp, SE (BX X scope s H C cl fp) g WF kx tk) (he : ∀ s H C cl fp, SE (BX X scope s H C cl fp) g WF vx tv)
    (hs : ∀ x, foldedSetIterable iter X.env x = pure x := by intro _; rfl) : SE X g W (.DictComp kx vx [⟨tg, iter, ifs, 0⟩] scope pos) (eDc wi t tt tk tv (own.map (·.2))) :=
  PEimp (pe_dc hc hN hi ok hg ht hk he hs) fun σ H Q h => dc_sound h
/-- name = {.. for ..} on one line, the name a local -/
theorem ps_setD {i : Nat} {y : Str} {py spos : Pos} {wi : TI} {gt : TG} {tt : TT} {tk tv : TE} (hc : X.calm = true) (hN : X.N.Nodup) (hy : X.N[i]? = some y) (hyl : X.env.scope.names.lookup y = some .local)
    (hsw : swapsWith (.DictComp kx vx [⟨tg, iter, ifs, 0⟩] scope pos) (some (.Name y py)) spos.line X.env = pure true) (hi : PI X tg iter wi) (ok : BlkOk X.N X.env.scope scope own)
    (hg : ∀ s H C cl fp, PG (BX X scope s H C cl fp) tg gt) (ht : ∀ s H C cl fp, PTs (BX X scope s H C cl fp) ifs tt)
    (hk : ∀ s H C cl fp, PE (BX X scope s H C cl fp) kx tk) (he : ∀ s H C cl fp, PE (BX X scope s H C cl fp) vx tv) (hs : ∀ x, foldedSetIterable iter X.env x = pure x := by intro _; rfl) :
    PS X (.Assign [.Name y py] (.DictComp kx vx [⟨tg, iter, ifs, 0⟩] scope pos) spos) (tAsg (tDc wi gt tt tk tv (own.map (·.2))) (gName i)) := by
  constructor
  intro pins s σ H D I w
  rw [exec_Assign_Name_used _ _ _ _ hsw]
  apply wpAny_bind
  apply wpAny_standAt
  apply wpAny_bind
  have w' : tDc wi gt tt tk tv (own.map (·.2)) σ H (fun x H1 => gName i x σ H1 D.nx) := w
  show wpAny _ X.A (do
    let _ ← comprehension (.DictComp kx vx [⟨tg, iter, ifs, 0⟩] scope pos) scope X.env (firstIterPos [⟨tg, iter, ifs, 0⟩] pos) newDict false (eval iter X.env) (some (assign (.Name y py) X.env))) _ _ s
  apply wpAny_bind
  refine thn (dc_core (Qf := fun _ s' => SP X pins D .next s') hc hN I hi ok hg ht hk he hs w' ?_) (fun _ s' hq => wpAny_pure (wpAny_pure hq))
  rintro L C s' m H' I' q hn ⟨f0, f1, f2, f3, f4, f5⟩
  show wpAny _ _ (assign (.Name y py) X.env (.ref L)) _ _ _
  apply wpAny_assign_Name
  refine store_ok2 (v := V.ref L) I' hN hy (.inl hyl) rfl ?_ (.inr hyl)
  rintro s2 I2 ⟨a, sb, ha⟩
  have apart : C ≠ a := ha.elim (fun z => z ▸ f1) (fun z e => f4 y a z e.symm)
  refine ⟨m, hn.sameBut sb apart, ?_⟩
  intro h3 sb3
  refine ⟨_, H', ?_, q⟩
  refine I2.turned (t' := s2.toks) (fun b o hb e => ?_) f0 f1 f3 f4 f5
  exact (sb3.2 b hb).trans e
theorem ss_setDc {i : Nat} {y : Str} {py spos : Pos} (hc : X.calm = true) (hN : X.N.Nodup) (hy : X.N[i]? = some y) (hyl : X.env.scope.names.lookup y = some .local)
    (hsw : swapsWith (.DictComp kx vx [⟨tg, iter, ifs, 0⟩] scope pos) (some (.Name y py)) spos.line X.env = pure true) (hi : SI X g W tg iter wi) (ok : BlkOk X.N X.env.scope scope own)
    (hg : ∀ s H C cl fp, SGc (BX X scope s H C cl fp) g (own.map (·.2)) tg t) (ht : ∀ s H C cl fp, STs (BX X scope s H C cl fp) g ifs tt) (hk : ∀ s H C cl fp, SE (BX X scope s H C cl fp) g WF kx tk) (he : ∀ s H C cl fp, SE (BX X scope s H C cl fp) g WF vx tv)
    (hs : ∀ x, foldedSetIterable iter X.env x = pure x := by intro _; rfl) : SS X g W (.Assign [.Name y py] (.DictComp kx vx [⟨tg, iter, ifs, 0⟩] scope pos) spos) (sAsg (eDc wi t tt tk tv (own.map (·.2))) (tgN i)) :=
  PSimp (ps_setD hc hN hy hyl hsw hi ok hg ht hk he hs) fun D σ H h => tAsg_of (fun σ H Q h => dc_sound h) gName_of D σ H h
end
end Ev


/-! Ev: texts told, methods, dicts. -/
namespace Ev
open PySem PySem.Spec PyProof.Rows L2
section
variable {X : Cx} {g : G} {W : WX} {pos : Pos} {a b c o e : Expr} {es : List Expr} {fa fb fc fo : EF} {fs : AF}
/-! ### f-strings -/
def fmtP (v : PV) (S : Store) : Option (PV × Store) := match v with
  | .str s => if s.length ≤ LINE then some (.str s, S) else none
  | .int i => if i.natAbs.log2 < 1920 then some (.str (istr i), S) else none
  | _ => none
theorem se_fmt (ha : SE X g W a fa) : SE X g W (.FormattedValue a (-1) none pos) (eUn fmtP fa) :=
  PEimp (pe_fmt ha) fun σ H Q h => one h fun μ v S x H2 rs rv q => by
    obtain ⟨z, S', e, k⟩ := Post.ofO q
    unfold fmtP at e
    split at e
    · split at e
      · rename_i hl
        cases e; cases rv
        exact .inl ⟨_, rfl, by rw [slen, line_eq]; exact hl, k μ _ H2 .refl .refl rs (.str _)⟩
      · cases e
    · split at e
      · rename_i hl
        cases e; cases rv
        refine .inr ⟨_, rfl, hl, ?_⟩
        have := k μ (.str ⟨(istr _).toArray⟩) H2 .refl .refl rs (.str _)
        rw [show (⟨(istr _).toArray⟩ : Str) = Str.ofString (toString _) from (sof _).symm] at this
        exact this
      · cases e
    · cases e
theorem se_joined1 (ha : SE X g W a fa) : SE X g W (.JoinedStr [a] pos) fa := pe_joined1 ha
/-- parts of an f-string -/
inductive SJ (X : Cx) (g : G) (W : WX) : List Expr → List EF → Prop where
  | nil : SJ X g W [] []
  | cons {e : Expr} {f : EF} {es : List Expr} {fs : List EF} (h : SE X g W e f) (r : SJ X g W es fs) : SJ X g W (e :: es) (f :: fs)
def jsL : List EF → List Nat → EF
  | [], acc => fun _ S => .ok (.str acc) S
  | f :: fs, acc => fun ρ S => (f ρ S).bind fun v S1 => match v with
    | .str s => if acc.length + s.length ≤ LINE then jsL fs (acc ++ s) ρ S1 else .bad
    | _ => .bad
theorem SJ.pj {es : List Expr} {fs : List EF} (h : SJ X g W es fs) : PJ X es (fs.map (tEv g W)) := by
  induction h with
  | nil => exact .nil
  | cons h r ih => exact .cons h ih
theorem jsL_sound {fs : List EF} : ∀ {acc : List Nat} {σ : St} {H : Hp} {Q : Str → Hp → Prop}, tEv g W (jsL fs acc) σ H (fun x H1 => ∃ y : Str, x = .str y ∧ Q y H1) → tJs (fs.map (tEv g W)) ⟨acc.toArray⟩ σ H Q := by
  induction fs with
  | nil =>
    intro acc σ H Q ⟨μ, ρ, S, re, rs, p⟩
    obtain ⟨y, e, q⟩ := Post.here p rs (.str acc)
    cases e
    exact q
  | cons f fs ih =>
    intro acc σ H Q ⟨μ, ρ, S, re, rs, p⟩
    refine ⟨μ, ρ, S, re, rs, (Post.bind (r := f ρ S) p).imp fun x H1 ⟨μ1, v, S1, p1, l1, rs1, rv, q⟩ => ?_⟩
    split at q
    · split at q
      · rename_i s hl
        cases rv
        refine ⟨_, rfl, ?_, ?_⟩
        · rw [sapp, slen, List.length_append, line_eq]; exact hl
        · rw [sapp]
          exact ih ⟨μ1, ρ, S1, re.mono p1 l1, rs1, q⟩
      · exact q.elim
    · exact q.elim
theorem jsL_str : ∀ (fs : List EF) (acc : List Nat) (ρ : Env') (S : Store) {v : PV} {S' : Store}, jsL fs acc ρ S = .ok v S' → ∃ s, v = .str s
  | [], acc, ρ, S, v, S', e => by
    unfold jsL at e
    cases e
    exact ⟨_, rfl⟩
  | f :: fs, acc, ρ, S, v, S', e => by
    unfold jsL at e
    unfold R.bind at e
    split at e
    · dsimp only at e
      split at e
      · split at e
        · exact jsL_str fs _ ρ _ e
        · cases e
      · cases e
    · cases e
    · cases e
def eJs (fs : List EF) : EF := jsL fs []
theorem se_joined {v1 v2 : Expr} {rest : List Expr} {fs : List EF} (h : SJ X g W (v1 :: v2 :: rest) fs) : SE X g W (.JoinedStr (v1 :: v2 :: rest) pos) (eJs fs) :=
  PEimp (pe_joined h.pj) fun σ H Q ⟨μ, ρ, S, re, rs, p⟩ => jsL_sound (acc := []) ⟨μ, ρ, S, re, rs, by
    unfold eJs at p
    cases e : jsL fs [] ρ S with
    | ok v S' =>
      rw [e] at p
      obtain ⟨s, rfl⟩ := jsL_str fs [] ρ S e
      intro μ' x H' hp hl rs' r
      cases r
      exact ⟨_, rfl, p μ' _ H' hp hl rs' (.str s)⟩
    | exc c S' => rw [e] at p; exact p
    | bad => rw [e] at p; exact p⟩
/-! ### sep.join -/
def strsOf : List PV → Option (List (List Nat))
  | [] => some []
  | .str s :: r => match strsOf r with
    | some l => some (s :: l)
    | none => none
  | _ => none
def seqOf (S : Store) : PV → Option (List PV)
  | .tup xs => some xs
  | .loc l => listAt S l
  | _ => none
def joinP (v w : PV) (S : Store) : Option (PV × Store) := match v, seqOf S w with
  | .str a, some xs => match strsOf xs with
    | some ys => if (ys.map List.length).sum + ys.length * a.length ≤ LINE then some (.str (TL.joinL a ys), S) else none
    | none => none
  | _, _ => none
theorem strsOf_vals {μ : List Addr} {H : Hp} : ∀ {xs : List PV} {vs : List V} {ys : List (List Nat)}, Rps g.K μ H xs vs → strsOf xs = some ys → vs = (ys.map fun s => (⟨s.toArray⟩ : Str)).map V.str
  | _, _, _, .nil, e => by cases e; rfl
  | x :: xs, _, _, .cons h r, e => by
    cases h <;> try (cases e)
    rename_i s
    unfold strsOf at e
    split at e
    · rename_i l e2
      cases e
      rw [List.map_cons, List.map_cons, strsOf_vals r e2]
    · cases e
theorem join_S (a : List Nat) (ys : List (List Nat)) : Txt.join ⟨a.toArray⟩ (ys.map fun s => (⟨s.toArray⟩ : Str)) = ⟨(TL.joinL a ys).toArray⟩ := SX.join_S a ys
theorem seqOf_at {μ : List Addr} {S : Store} {H : Hp} {w : PV} {x : V} {xs : List PV} (rs : RS g μ S H) (r : Rp g.K μ H w x) (e : seqOf S w = some xs) : ∃ p vs, x = .ref p ∧ (SqL g.K H p vs ∨ SqT g.K H p vs) ∧ Rps g.K μ H xs vs := by
  cases r with
  | tup h r => cases e; exact ⟨_, _, rfl, .inr h, r⟩
  | loc h =>
    obtain ⟨vs, q, r⟩ := rs.at_ h e
    exact ⟨_, vs, rfl, .inl q, r⟩
  | non => cases e
  | bl => cases e
  | int => cases e
  | str => cases e
/-- a method of texts with one argument -/
def eM1 (f : BOp) (fo fe : EF) : EF := fun ρ S => (fo ρ S).bind fun v S1 => match v with
  | .str _ => (fe ρ S1).bind fun w S2 => R.ofO (f v w S2)
  | _ => .bad
theorem m1_of {f : BOp} {r : V → List V → Hp → VK → Prop} {σ : St} {H : Hp} {Q : VK} (h : tEv g W (eM1 f fo fa) σ H Q)
    (hr : ∀ μ v w S x y H2, RS g μ S H2 → Rp g.K μ H2 v x → Rp g.K μ H2 w y → PostE g W σ μ H2 (R.ofO (f v w S)) Q → r x [y] H2 Q) : tM1 r (tEv g W fo) (tEv g W fa) σ H Q := by
  obtain ⟨μ, ρ, S, re, rs, p⟩ := h
  refine ⟨μ, ρ, S, re, rs, (Post.bind (r := fo ρ S) p).imp fun x H1 ⟨μ1, v, S1, p1, l1, rs1, rv, q⟩ => ?_⟩
  split at q
  · have rv' := rv
    cases rv'
    refine ⟨⟨_, rfl⟩, μ1, ρ, S1, re.mono p1 l1, rs1, (Post.bind q).imp fun y H2 ⟨μ2, w, S2, p2, l2, rs2, rw', q2⟩ => ?_⟩
    exact hr μ2 _ w S2 _ y H2 rs2 (rv.mono p2 l2) rw' q2
  · exact q.elim
theorem se_join {apos : Pos} (hK : X.K = g.K) (ho : SE X g W o fo) (he : SE X g W e fa) (hs : starEach [e] X.env = [(false, eval e X.env)] := by rfl) (hbase : attributeBase o "join" X.env (eval o X.env) = eval o X.env := by rfl) (hline : (apos.endLine == pos.line) = true := by rfl) :
    SE X g W (.Call (.Attribute o "join" apos) [e] [] pos) (eM1 joinP fo fa) :=
  PEimp (pe_join ho he hs hbase hline) fun σ H Q h => m1_of h fun μ v w S x y H2 rs rv rw' q => by
    obtain ⟨z, S', e, k⟩ := Post.ofO q
    unfold joinP at e
    split at e
    · rename_i a xs e1
      split at e
      · rename_i ys e2
        split at e
        · rename_i hl
          cases e
          cases rv
          obtain ⟨p, vs, rfl, hp, r⟩ := seqOf_at rs rw' e1
          have hv := strsOf_vals r e2
          subst hv
          refine ⟨_, p, _, rfl, rfl, by rw [hK]; exact hp, ?_, ?_⟩
          · rw [List.map_map, List.length_map, slen]
            have e3 : (ys.map ((fun x : Str => x.length) ∘ fun s => (⟨s.toArray⟩ : Str))) = ys.map List.length := List.map_congr_left fun s _ => slen s
            rw [e3]
            exact hl
          · rw [join_S]
            exact k μ _ H2 .refl .refl rs (.str _)
        · cases e
      · cases e
    · cases e
/-! ### o.append(e) -/
def eAppd (fo : EF) (fs : AF) : EF := fun ρ S => (fo ρ S).bind fun v S1 => match tyP S1 v with
  | some "list" => (fs ρ S1).bind fun ws S2 => match v, ws with
    | .loc l, [w] => match S2[l]? with
      | some (.lst xs) => if xs.length < LINE then .ok .non (S2.set l (.lst (xs ++ [w]))) else .bad
      | _ => .bad
    | _, _ => .bad
  | _ => .bad
theorem se_append {apos : Pos} (hK : X.K = g.K) (ho : SE X g W o fo) (ha : SA X g W (e :: es) fs) (hbase : attributeBase o "append" X.env (eval o X.env) = eval o X.env := by rfl)
    (hfew : ((backTo pos (starEach (e :: es) X.env)).all (fun x => !x.1) && (backToKw pos (keywordEach [] X.env)).all (fun x => x.1.isSome)
      && decide ((e :: es).length + ([] : List Keyword).length + (if ([] : List Keyword).isEmpty then 0 else 1) < 30)) = true := by rfl)
    (hline : (apos.endLine == pos.line) = true := by rfl) (hs : starEach (e :: es) X.env = (false, eval e X.env) :: starEach es X.env := by rfl) (hplain : (backTo pos (starEach es X.env)).any (·.1) = false := by rfl) :
    SE X g W (.Call (.Attribute o "append" apos) (e :: es) [] pos) (eAppd fo fs) :=
  PEimp (pe_bm PySem.F.plainAttrs_list PySem.F.slot_list_append PySem.F.type_list_append mt_append ho ha hbase hfew hline hs hplain) fun σ H Q ⟨μ, ρ, S, re, rs, p⟩ => by
    refine ⟨μ, ρ, S, re, rs, (Post.bind (r := fo ρ S) p).imp fun x H1 ⟨μ1, v, S1, p1, l1, rs1, rv, q⟩ => ?_⟩
    split at q
    · rename_i e1
      have ty : tyV X.K "list" x H1 := by
        cases rv with
        | loc h1 =>
          unfold tyP at e1
          split at e1
          · exact absurd e1 (by decide)
          · exact absurd e1 (by decide)
          · exact absurd e1 (by decide)
          · exact absurd e1 (by decide)
          · exact absurd e1 (by decide)
          · rename_i e0
            cases e0
            split at e1
            · rename_i e2
              obtain ⟨vs, q1, _⟩ := rs1.lst h1 e2
              exact .inl ⟨rfl, vs, .inl (.inl q1)⟩
            · exact absurd e1 (by decide)
            · cases e1
        | non => exact absurd e1 (by simp [tyP])
        | bl => exact absurd e1 (by simp [tyP])
        | int => exact absurd e1 (by simp [tyP])
        | str => exact absurd e1 (by simp [tyP])
        | tup => exact absurd e1 (by simp [tyP])
      refine ⟨ty, μ1, ρ, S1, re.mono p1 l1, rs1, (Post.bind (rel := Rps g.K) q).imp fun ys H2 ⟨μ2, ws, S2, p2, l2, rs2, rws, q2⟩ => ?_⟩
      split at q2
      · rename_i l w
        split at q2
        · rename_i xs e2
          split at q2
          · rename_i hl
            obtain ⟨y, rfl, ry⟩ := rws.one
            cases rv with
            | loc h1 =>
              have h2 := p2.get h1
              obtain ⟨vs, q1, r1⟩ := rs2.lst h2 e2
              have wq := Wr.lst q1
              exact ⟨_, vs, y, rfl, rfl, q1, by rw [← r1.length, line_eq]; exact hl, q2 μ2 _ _ .refl (.upd wq) (rs2.put (so := .lst (xs ++ [_])) h2 e2 rfl rfl ⟨_, upd_same, (r1.snoc ry).mono .refl (.upd wq)⟩) .non⟩
          · exact q2.elim
        · exact q2.elim
      · exact q2.elim
    · exact q.elim
/-! ### {} -/
def eDn : EF := fun _ S => .ok (.loc S.length) (S ++ [.dic []])
theorem se_dnew : SE X g W (.Dict [] [] pos) eDn :=
  PEimp pe_dnewK fun σ H Q ⟨μ, ρ, S, re, rs, p⟩ q hq => p _ _ _ ⟨[q], rfl⟩ (.upd (.none hq)) (rs.push (so := .dic []) hq ⟨[], upd_same, .nil⟩) (Rp.atEnd rs q _)
/-- dict(pairs) -/
def pairOf : PV → Option (PV × PV)
  | .tup [k, v] => if keyP k then some (k, v) else none
  | _ => none
def pairsOf : List PV → Option (List (PV × PV))
  | [] => some []
  | x :: r => match pairOf x, pairsOf r with
    | some p, some l => some (p :: l)
    | _, _ => none
def mergeP (kvs more : List (PV × PV)) : List (PV × PV) := more.foldl (fun acc kv => putP acc kv.1 kv.2) kvs
def dicP : AOp
  | [.loc l], S => match S[l]? with
    | some (.lst xs) => match pairsOf xs with
      | some ps => some (.loc S.length, S ++ [.dic (mergeP [] ps)])
      | none => none
    | _ => none
  | _, _ => none
theorem pairsOf_at {μ : List Addr} {H : Hp} : ∀ {xs : List PV} {vs : List V} {ps : List (PV × PV)}, Rps g.K μ H xs vs → pairsOf xs = some ps →
    ∃ (as : List Addr) (ks : List (Key × V)), vs = as.map V.ref ∧ Paired (fun p kv => SqT g.K H p [kV kv.1, kv.2]) as ks ∧ Rkv g.K μ H ps ks
  | _, _, _, .nil, e => by cases e; exact ⟨[], [], rfl, .nil, .nil⟩
  | x :: xs, _, _, .cons h r, e => by
    unfold pairsOf at e
    split at e
    · rename_i p l e1 e2
      cases e
      obtain ⟨as, ks, h1, h2, h3⟩ := pairsOf_at r e2
      unfold pairOf at e1
      split at e1
      · rename_i k v
        split at e1
        · rename_i hk
          cases e1
          cases h with
          | tup h r' =>
            obtain ⟨a, b, rfl, ra, rb⟩ := r'.two
            obtain ⟨y, hy, rfl⟩ := Rk.of ra hk
            exact ⟨_ :: as, (y, b) :: ks, by rw [h1]; rfl, .cons h h2, .cons hy rb h3⟩
        · cases e1
      · cases e1
    · cases e
theorem Rkv.merge {μ : List Addr} {H : Hp} {ps : List (PV × PV)} {ks : List (Key × V)} (h : Rkv g.K μ H ps ks) : ∀ {kvs : List (PV × PV)} {ls : List (Key × V)}, Rkv g.K μ H kvs ls → Rkv g.K μ H (mergeP kvs ps) (mergeK ls ks) := by
  induction h with
  | nil => intro kvs ls q; exact q
  | cons hk h r ih => intro kvs ls q; exact ih (q.put hk h)
theorem callDic (hK : X.K = g.K) (hc : X.calm = true) : CallR X (.type "dict") (rVs g dicP) := by
  intro pins s σ H xs us Q I r h
  obtain ⟨μ, vs, S, z, S', rs, rv, e, k⟩ := h
  unfold dicP at e
  split at e
  · split at e
    · rename_i e1
      split at e
      · rename_i ps e2
        cases e
        obtain ⟨x, rfl, rx⟩ := rv.one
        cases rx with
        | loc h1 =>
          obtain ⟨ws, q1, r1⟩ := rs.lst h1 e1
          obtain ⟨as, ks, rfl, hp, hr⟩ := pairsOf_at r1 e2
          exact call_dictP hc pins s σ H _ us Q I r ⟨_, as, ks, rfl, .inl (.inl q1), by rw [hK]; exact hp, fun p hp => k _ _ _ ⟨[p], rfl⟩ (.upd (.none hp)) (rs.push (so := .dic (mergeP [] ps)) hp ⟨_, upd_same, (hr.merge .nil).mono ⟨[p], rfl⟩ (.upd (.none hp))⟩) (Rp.atEnd rs p _)⟩
      · cases e
    · cases e
  · cases e
end
end Ev


/-! Ev: tuple(dict). -/
namespace Ev
open PySem PySem.Spec PyProof.Rows L2
section
variable {prog : Program} {w : World} {A : Around} {E : Value → Shared → Prop} {s : Shared} {T : String} {d : Addr} {n : Nat} {P : Nat → Value → Prop} {OK : Heap → Prop}
/-- the items of a source of the kit, collected -/
theorem collect_src {Q : List Value → Shared → Prop} (K : PySem.W.KdlSrc prog w T d d n P OK) (hh : A.handled = none) (hok : OK s.heap) (hlt : d < s.heap.objs.size) (hn : n ≤ sizeLine) (hpush : ∀ o, OK (s.heap.push o))
    (hQ : ∀ (h' : Heap) (tk : Nat) (acc : Array Value), (∀ b o, s.heap.get? b = some o → h'.get? b = some o) → ItemsOf P acc n → Q acc.toList { s with heap := h', toks := tk }) :
    wpAny (model prog w) A (collect (.ref d)) Q E s := by
  unfold collect
  apply wpAny_bind
  apply wpAny_runValue
  apply codeAny_builtin PySem.F.entry_proto_collect
  rw [Around.under_plainId PySem.F.plain_proto_collect _]
  show wpAny _ A.in1 (newList [] >>= fun l => again (.builtin "list.__iadd__" ⟨[l, .ref d], []⟩)) _ _ s
  apply wpAny_bind
  refine wpAny_newObj_type ?_
  refine wpAny_pure ⟨plainId_quiet PySem.F.plain_list_iadd _, codeAny_builtin PySem.F.entry_list_iadd ?_⟩
  rw [Around.under_plainId PySem.F.plain_list_iadd _]
  show wpAny _ A.in1 (Builtin.List.listExtendWith (.ref s.heap.objs.size) (.ref d) (.ref s.heap.objs.size)) _ _ _
  have at0 : (s.heap.push { cls := .type "list", data := .seq ([] : List Value).toArray }).get? s.heap.objs.size = some { cls := .type "list", data := .seq #[] 0 } := Heap.get?_push_size _ rfl
  have ne : s.heap.objs.size ≠ d := Nat.ne_of_gt hlt
  refine wpAny_mono (PySem.W.kdl_extend (A := A) (R := fun rr s' => rr = .ok (.ret (.ref s.heap.objs.size)) ∧ ∃ (h' : Heap) (tk : Nat) (acc : Array Value) (c' : Nat), s' = { s with heap := h', toks := tk } ∧
      (∀ b o, s.heap.get? b = some o → h'.get? b = some o) ∧ h'.get? s.heap.objs.size = some { cls := .type "list", dict := none, data := .seq acc c', slots := #[] } ∧ ItemsOf P acc n)
    (s := { s with heap := s.heap.push { cls := .type "list", data := .seq ([] : List Value).toArray } }) K hh (hpush _) s.heap.objs.size ne ne _ 0 at0
    (fun h' tk acc c' hk e hi => ⟨rfl, h', tk, acc, c', rfl, fun b o q => hk b o (Nat.ne_of_lt (Heap.lt_size q)) (Heap.get?_push_of_some _ q), e, hi⟩) hn) (fun fin s' h => ?_) (fun e s' h => ?_)
  · cases fin with
    | done f =>
      obtain ⟨e, h', tk, acc, c', rfl, hk, hS', hi⟩ := h
      cases e
      show wpAny _ A (load s.heap.objs.size >>= _) _ _ _
      exact wpAny_bind (wpAny_load hS' (wpAny_pure (hQ h' tk acc hk hi)))
    | again c' =>
      refine ⟨h.1, codeAny_mono h.2 ?_⟩
      rintro rr s'' ⟨rfl, h', tk, acc, c', rfl, hk, hS', hi⟩
      show wpAny _ A (load s.heap.objs.size >>= _) _ _ _
      exact wpAny_bind (wpAny_load hS' (wpAny_pure (hQ h' tk acc hk hi)))
  · exact absurd h.1 (by simp)
theorem code_tuple_src {Q₁ : Value → Shared → Prop} (K : PySem.W.KdlSrc prog w T d d n P OK) (hT : T = "dict") (hh : A.handled = none) (hok : OK s.heap) (hlt : d < s.heap.objs.size) (hn : n ≤ sizeLine) (hpush : ∀ o, OK (s.heap.push o))
    (h : ∀ (h' : Heap) (tk : Nat) (acc : Array Value), (∀ b o, s.heap.get? b = some o → h'.get? b = some o) → ItemsOf P acc n → Q₁ (.ref h'.objs.size) { s with heap := h'.push { cls := .type "tuple", data := .seq acc }, toks := tk }) :
    codeAny (model prog w) A (.call (.builtin "tuple.__new__") ⟨[.type "tuple", .ref d], []⟩) (wants Q₁ E) s := by
  subst hT
  refine codeAny_of_tree ?_
  show wpAny _ A.in1 (do checkBuiltinCall "tuple.__new__" ⟨[.type "tuple", .ref d], []⟩; again (.builtin "tuple.__new__" ⟨[.type "tuple", .ref d], []⟩)) _ _ s
  refine wpAny_bind (wpAny_of_eq (PySem.F.newCall_tuple_1 _) (wpAny_pure ⟨plainId_quiet PySem.F.plain_tuple_new _, codeAny_builtin PySem.F.entry_tuple_new ?_⟩))
  rw [Around.under_plainId PySem.F.plain_tuple_new _]
  have hsub := sub_tuple_self
  have hinit := init_tuple_lookup
  have hmh := madeHere_tuple
  have hTI : s.TypeIs (.ref d) "dict" := K.type s hok
  have hh1 : A.in1.handled = none := hh
  wp_walk using wpAny_typeOf hTI, collect_src (A := A.in1) K hh1 hok hlt hn hpush
  intro h' tk acc hk hacc
  show wpAny _ _ (Builtin.Tuple.tupleExact acc.toList.toArray >>= fun v => ret v) _ _ _
  unfold Builtin.Tuple.tupleExact
  refine wpAny_bind (wpAny_newObj_type ?_ (by show acc.toList.toArray.size ≤ sizeLine; simp only [Array.toArray_toList]; rw [hacc.1]; exact hn))
  refine wpAny_pure ?_
  have e : acc.toList.toArray = acc := by simp
  rw [e]
  exact h h' tk acc hk hacc
theorem call_tuple_src {Q : Value → Shared → Prop} (K : PySem.W.KdlSrc prog w "dict" d d n P OK) (hh : A.handled = none) (hok : OK s.heap) (hlt : d < s.heap.objs.size) (hn : n ≤ sizeLine) (hpush : ∀ o, OK (s.heap.push o))
    (hQ : ∀ (h' : Heap) (tk : Nat) (acc : Array Value), (∀ b o, s.heap.get? b = some o → h'.get? b = some o) → ItemsOf P acc n → Q (.ref h'.objs.size) { s with heap := h'.push { cls := .type "tuple", data := .seq acc }, toks := tk }) :
    wpAny (model prog w) A (call (.type "tuple") [.ref d]) Q E s := by
  refine callType_codes (Q₁ := fun obj s₁ => s₁.TypeIs obj "tuple" ∧ Q obj s₁) PySem.F.called_tuple (PySem.F.typeCall_tuple_1 _) PySem.F.entry_object_init
    (code_tuple_src (A := A.in1) K rfl hh hok hlt hn hpush fun h' tk acc hk hacc => ⟨⟨_, Heap.get?_push_size _ rfl, rfl⟩, hQ h' tk acc hk hacc⟩) ?_
  intro obj s₁ h₁
  exact ⟨h₁.1, PySem.F.args_object_init_2 obj _, object_init_meets PySem.F.called_tuple.init.lookup PySem.F.called_tuple.made (by decide) prog w A.in1 _ s₁ ⟨h₁.1, rfl, h₁.2⟩⟩
end
section
variable {X : Cx} {g : G} {W : WX}
def rTupD : List V → Hp → VK → Prop := fun xs H Q => ∃ (p : Addr) (kvs : List (Key × V)), xs = [.ref p] ∧ H p = some (.dK kvs) ∧ ∀ q, H q = none → Q (.ref q) (upd H q (.tup (kvs.map fun kv => kV kv.1)))
theorem call_tuple_dK (hc : X.calm = true) : CallR X (.type "tuple") rTupD := by
  intro pins s σ H xs us Q I r ⟨p, kvs, e, hk, q⟩
  subst e
  obtain ⟨u, eu, rx⟩ := vals1 r
  subst eu
  obtain rfl : u = Value.ref p := rx
  obtain ⟨z, lo, vs, rk, hd⟩ := (show ObjOk X.prog X.w H s.heap p (.dK kvs) from I.hok p _ hk)
  obtain ⟨ep, hat⟩ := hd.dictAt
  have hl : kvs.length = vs.length := Paired.length rk
  have hlt : p < s.heap.objs.size := by
    obtain ⟨o, _, _, ho, _⟩ := hd
    exact Heap.lt_size ho
  refine call_tuple_src (PySem.W.kdl_dict (knd := mixKind X.prog X.w) (kvs := vs) (ep := ep) lo) (I.ok.hd hc) hat hlt (by rw [← hl]; exact z) (fun o => hat.push o) fun h' tk acc hkeep hacc => ?_
  have I2 : Inv X pins σ H { s with heap := h', toks := tk } := I.kept hkeep
  refine ⟨.ref h'.objs.size, upd H h'.objs.size (.tup (kvs.map fun kv => kV kv.1)), I2.laid (t' := tk) (fun c o e => Heap.get?_push_of_some _ e) (Nat.le_refl _) (show ObjOk X.prog X.w _ _ _ (.tup (kvs.map fun kv => kV kv.1)) from ⟨?_, acc.toList, ?_, ?_⟩), rfl, q _ (I2.hok.fresh (Nat.le_refl _))⟩
  · rw [List.length_map]; exact z
  · have el : acc.toList.length = acc.size := by simp
    refine vals_of_at (by rw [List.length_map, el, hacc.1, hl]) fun j x w h1 h2 => ?_
    obtain ⟨k, y, hky, hi⟩ := hacc.2 j w (by rw [← Array.getElem?_toList]; exact h2)
    have e1 : (kvs.map (·.1))[j]? = some k := by
      rw [KV.keys rk, List.getElem?_map, hky] <;> rfl
    have e2 : (kvs.map fun kv => kV kv.1)[j]? = some (kV k) := by
      have e3 : (kvs.map fun kv => kV kv.1) = (kvs.map (·.1)).map kV := by rw [List.map_map] <;> rfl
      rw [e3, List.getElem?_map, e1] <;> rfl
    rw [e2] at h1
    cases h1
    exact keyIs_rel hi
  · rw [Array.toArray_toList]; exact IsTup.new _ _
/-- tuple(x): a dict too -/
def tupP2 : AOp
  | [.tup xs], S => some (.tup xs, S)
  | [.loc l], S => match S[l]? with
    | some (.lst xs) => some (.tup xs, S)
    | some (.rol xs) => some (.tup xs, S)
    | some (.dic kvs) => some (.tup (kvs.map (·.1)), S)
    | _ => none
  | _, _ => none
theorem callTup2 (hK : X.K = g.K) (hc : X.calm = true) : CallR X (.type "tuple") (rVs g tupP2) := by
  intro pins s σ H xs us Q I r h
  obtain ⟨μ, vs, S, z, S', rs, rv, e, k⟩ := h
  unfold tupP2 at e
  split at e
  · exact callTup hK pins s σ H xs us Q I r ⟨μ, _, S, z, S', rs, rv, e, k⟩
  · split at e
    · rename_i e1; exact callTup hK pins s σ H xs us Q I r ⟨μ, _, S, z, S', rs, rv, by simp only [tupP, e1]; exact e, k⟩
    · rename_i e1; exact callTup hK pins s σ H xs us Q I r ⟨μ, _, S, z, S', rs, rv, by simp only [tupP, e1]; exact e, k⟩
    · rename_i e1
      cases e
      obtain ⟨x, rfl, rx⟩ := rv.one
      cases rx with
      | loc h1 =>
        obtain ⟨ws, q1, r1⟩ := rs.dic h1 e1
        exact call_tuple_dK hc pins s σ H _ us Q I r ⟨_, ws, rfl, q1, fun p hp => k μ _ _ .refl (.upd (.none hp)) (rs.laid hp) (.newT hp r1.keys)⟩
    · cases e
  · cases e
end
end Ev


/-! Ev: generator expressions whose elements only look (all, any, tuple of them). -/
namespace Ev
open PySem PySem.Spec PyProof.Rows L2
/-- a generator expression made, n items told by F, ready to be walked -/
def ReadyG (X : Cx) (pins : List (Addr × Obj)) (σ : St) (H1 : Hp) (P : Addr) (n : Nat) (F : Nat → Value → Prop) (g : Addr) (s5 : Shared) : Prop :=
  ∃ (fp wr : List Addr) (G : Array GenState → Array GenState → Prop) (F' : Nat → Value → Prop) (St : Nat → Shared → Prop),
    WalksS X.prog X.w X.A.in4 g fp wr G n F' St ∧ (∀ j v, F' j v → F j v) ∧ St 0 s5 ∧ (∀ b ∈ fp, b < s5.heap.objs.size) ∧ g ∈ fp ∧ (∀ i s9, St i s9 → s9.TypeIs (.ref g) "generator") ∧
    ∀ s', Moved wr G s5 s' → ∃ H2, GxR.Tabbed P H1 H2 ∧ Inv X pins σ H2 s'
/-- the element, of the i-th item v: what it tells is told by F; nothing that stands is changed -/
def ElQ (X : Cx) (scope : Scope) (x : Str) (elt : Expr) (Pf F : Nat → Value → Prop) : Prop :=
  ∀ (cenv : Env) (A' : Around) (E' : Value → Shared → Prop) (i : Nat) (v : Value) (s₂ : Shared) (m₂ : Str → Option Value), cenv.scope = scope → cenv.globals = mainGlobals → Pf i v → s₂.heap.Ns cenv.locals m₂ → m₂ x = some v →
    s₂.heap.Ns mainGlobals X.mg → wpAny (model X.prog X.w) A' (eval elt cenv) (fun y s₃ => F i y ∧ Keeps s₂ s₃) E' s₂
section
variable {X : Cx} {pins : List (Addr × Obj)} {σ : St} {H H1 : Hp} {s s1 : Shared} {c P : Addr} {elt iter : Expr} {x : Str} {px gpos : Pos} {scope : Scope} {k n : Nat} {Pf F : Nat → Value → Prop} {St : Nat → Heap → Prop} {fp : List Addr} {o : Obj} {Q' : Value → Shared → Prop} {ps : Array Value}
theorem gen_core (hr : Room k X.A) (TB : GxR.TabB X.base X.mg c P) (hcode : X.env.code = .ref c) (S : GxR.GenS X.env scope x) (I1 : Inv X pins σ H1 s1) (hP : H1 P = some (.tbl ps)) (ht : TriplesOk ps.toList)
    (W : ∀ A' : Around, A'.handled = none → Walks X.prog X.w A' s1.heap.objs.size fp [s1.heap.objs.size] n Pf St) (hst : St 0 (s1.heap.push o)) (hfp : ∀ b ∈ fp, b ≤ s1.heap.objs.size ∧ b ≠ P) (hel : ElQ X scope x elt Pf F)
    (hQ : ∀ g s5, ReadyG X pins σ H1 P n F g s5 → Q' (.ref g) s5) :
    (s1.heap.push o).NoLimit ∧ wpAny (model X.prog X.w) X.A (genexprCode X.env gpos (X.env.qual ++ "<genexpr>") scope) (fun code s₃ => wpAny (model X.prog X.w) X.A (builtinsFor X.env.globals X.env.builtins) (fun bi s₄ =>
        ∃ I fp wr n₀ Pq St₀ pz Fq, Value.ref s1.heap.objs.size = .ref I ∧ (∀ A' : Around, A'.handled = none → Walks X.prog X.w A' I fp wr n₀ Pq St₀) ∧ St₀ 0 s₄.heap ∧ (∀ b ∈ fp, b < s₄.heap.objs.size) ∧ s₄.heap.NoLimit ∧ cStatics ∉ wr ∧
          (∀ href : Heap, (∀ b o, s₄.heap.get? b = some o → href.get? b = some o) →
            QuietGen X.prog X.w (genEnv scope (cloFrom X.env.cells scope.names []) s₄.heap.objs.size code bi X.env) x [] elt (List.range s₄.heap.objs.size) wr Pq pz Fq href) ∧
          (∀ a h₅ tk gs, gs.bare = true → s₄.heap.objs.size < a → h₅.objs.size = a + 1 → (∀ b o, s₄.heap.get? b = some o → h₅.get? b = some o) →
            WalksS X.prog X.w X.A.in4 a (a :: s₄.heap.objs.size :: List.range s₄.heap.objs.size) (s₄.heap.objs.size :: wr) (GenOnlyQ s₄.gens.size) (passing pz n₀ 0).length
              (fun j y => ∃ i, (passing pz n₀ 0)[j]? = some i ∧ Fq i y) (GenAt X.prog X.w X.A.in4 a s₄.gens.size s₄.heap.objs.size (List.range s₄.heap.objs.size) wr pz n₀ Fq) →
            GenAt X.prog X.w X.A.in4 a s₄.gens.size s₄.heap.objs.size (List.range s₄.heap.objs.size) wr pz n₀ Fq 0 { s₄ with gens := s₄.gens.push gs, toks := tk, heap := h₅ } →
            Q' (.ref a) { s₄ with gens := s₄.gens.push gs, toks := tk, heap := h₅ })) X.xe s₃) X.xe { s1 with heap := s1.heap.push o } := by
  have atP : s1.heap.get? P = some { cls := .none, data := .fields ps } := I1.hok P _ hP
  have ltP : P < s1.heap.objs.size := Heap.lt_size atP
  have atP2 : (s1.heap.push o).get? P = some { cls := .none, data := .fields ps } := Heap.get?_push_of_some _ atP
  have cd : PySem.W.CodeHd (s1.heap.push o) c P := TB.code.keeps fun b u e => Heap.get?_push_of_some _ (I1.bk b u e)
  have nolim : (s1.heap.push o).NoLimit := I1.nolimit.push o
  have szp : (s1.heap.push o).objs.size = s1.heap.objs.size + 1 := Heap.size_push ..
  have notP : cStatics ≠ P := by
    intro e
    obtain ⟨_, hns, _⟩ := I1.nolimit
    obtain ⟨o', es, ep, ho, hd, _⟩ := hns
    rw [e, atP] at ho
    cases ho
    cases hd
  have stLt : cStatics < s1.heap.objs.size := let ⟨_, hns, _⟩ := I1.nolimit; hns.lt
  obtain ⟨bm, ob, e1, e2, e3, e4, e5, e6, e7, e8⟩ := TB.bm
  have rest : ∀ (code : Value) (h3 : Heap) (tk : Nat) (ps' : Array Value), Heap.ExtBut P (s1.heap.push o) h3 → (s1.heap.push o).objs.size ≤ h3.objs.size → h3.get? P = some { cls := .none, data := .fields ps' } → (∃ more, ps' = ps ++ more) → TriplesOk ps'.toList →
      wpAny (model X.prog X.w) X.A (builtinsFor X.env.globals X.env.builtins) (fun bi s₄ =>
        ∃ I fp wr n₀ Pq St₀ pz Fq, Value.ref s1.heap.objs.size = .ref I ∧ (∀ A' : Around, A'.handled = none → Walks X.prog X.w A' I fp wr n₀ Pq St₀) ∧ St₀ 0 s₄.heap ∧ (∀ b ∈ fp, b < s₄.heap.objs.size) ∧ s₄.heap.NoLimit ∧ cStatics ∉ wr ∧
          (∀ href : Heap, (∀ b o, s₄.heap.get? b = some o → href.get? b = some o) →
            QuietGen X.prog X.w (genEnv scope (cloFrom X.env.cells scope.names []) s₄.heap.objs.size code bi X.env) x [] elt (List.range s₄.heap.objs.size) wr Pq pz Fq href) ∧
          (∀ a h₅ tk gs, gs.bare = true → s₄.heap.objs.size < a → h₅.objs.size = a + 1 → (∀ b o, s₄.heap.get? b = some o → h₅.get? b = some o) →
            WalksS X.prog X.w X.A.in4 a (a :: s₄.heap.objs.size :: List.range s₄.heap.objs.size) (s₄.heap.objs.size :: wr) (GenOnlyQ s₄.gens.size) (passing pz n₀ 0).length
              (fun j y => ∃ i, (passing pz n₀ 0)[j]? = some i ∧ Fq i y) (GenAt X.prog X.w X.A.in4 a s₄.gens.size s₄.heap.objs.size (List.range s₄.heap.objs.size) wr pz n₀ Fq) →
            GenAt X.prog X.w X.A.in4 a s₄.gens.size s₄.heap.objs.size (List.range s₄.heap.objs.size) wr pz n₀ Fq 0 { s₄ with gens := s₄.gens.push gs, toks := tk, heap := h₅ } →
            Q' (.ref a) { s₄ with gens := s₄.gens.push gs, toks := tk, heap := h₅ })) X.xe { s1 with heap := h3, toks := tk } := by
    intro code h3 tk ps' hx hsz atP3 hmore ht3
    have keep3 : ∀ b u, b ≠ P → s1.heap.get? b = some u → h3.get? b = some u := fun b u hb e => hx b u hb (Heap.get?_push_of_some _ e)
    have nsG : h3.Ns mainGlobals X.mg := ((I1.mod.glob.keeps I1.bk).push o).extBut hx TB.gP
    have lt3 : s1.heap.objs.size < h3.objs.size := by omega
    refine wpAny_builtinsFor (m := X.mg) (by rw [I1.ok.glob]; exact nsG) e1 e2 (keep3 _ _ e4 (I1.bk _ _ e5)) e6 e7 e8 ?_
    refine ⟨s1.heap.objs.size, fp, [s1.heap.objs.size], n, Pf, St, (fun _ => true), F, rfl, W, ?_, ?_, nolim.extBut hx notP, ?_, ?_, ?_⟩
    · exact (W X.A hr.hd).frame _ _ _ hst fun b hb u e => hx b u (hfp b hb).2 e
    · intro b hb
      exact Nat.lt_of_le_of_lt (hfp b hb).1 lt3
    · intro z
      rw [List.mem_singleton] at z
      exact Nat.ne_of_lt stLt z
    · intro href hhref
      refine ⟨fun A' E' i v s₂ m₂ hA hPv hn hm hk => ?_, fun A' E' i v s₂ m₂ hA hPv hp hn hm hk => ?_⟩
      · simp only [List.forIn_nil]
        exact wpAny_pure ⟨rfl, GxR.keeps_refl _⟩
      · refine hel _ A' E' i v s₂ m₂ rfl I1.ok.glob hPv hn hm ?_
        have gl : mainGlobals < h3.objs.size := nsG.lt
        have gl1 : mainGlobals < s1.heap.objs.size := (I1.mod.glob.keeps I1.bk).lt
        refine nsG.at' fun u e => hk mainGlobals (List.mem_range.mpr gl) ?_ u (hhref _ _ e)
        intro z
        rw [List.mem_singleton] at z
        exact Nat.ne_of_lt gl1 z
    · intro g h5 tk5 gs hgb hag hsz5 hk5 W5 hat
      simp only [GxR.passing_true, List.length_range] at W5
      refine hQ g _ ⟨_, _, _, _, _, W5, ?_, hat, ?_, List.mem_cons_self, fun i s9 h9 => h9.1.typeIs, fun s' hm => ?_⟩
      · rintro j v ⟨i, hij, hf⟩
        obtain ⟨hj, ej⟩ := List.getElem?_eq_some_iff.mp hij
        rw [List.getElem_range] at ej
        subst ej
        exact hf
      · intro b hb
        show b < h5.objs.size
        have e5 : h5.objs.size = g + 1 := hsz5
        have h8 : h3.objs.size < g := hag
        rw [e5]
        rcases List.mem_cons.mp hb with z | z
        · rw [z]; exact Nat.lt_succ_self g
        · rcases List.mem_cons.mp z with z | z
          · rw [z]; exact Nat.lt_succ_of_lt h8
          · have z2 : b < h3.objs.size := List.mem_range.mp z
            exact Nat.lt_succ_of_lt (Nat.lt_trans z2 h8)
      · obtain ⟨more, em⟩ := hmore
        have nwr : ∀ b u, s1.heap.get? b = some u → b ∉ h3.objs.size :: [s1.heap.objs.size] := fun b u e hb => by
          have hl := Heap.lt_size e
          rcases List.mem_cons.mp hb with z | z
          · rw [z] at hl
            exact absurd (Nat.lt_trans hl lt3) (Nat.lt_irrefl _)
          · rw [List.mem_singleton] at z
            rw [z] at hl
            exact Nat.lt_irrefl _ hl
        have J := GxR.inv_tab (more := more) (h' := s'.heap) (g' := s'.gens) (d' := s'.drawn) (t' := s'.toks) I1 hP (fun b u hb e => hm.heap b u (nwr b u e) (hk5 b u (keep3 b u hb e)))
          (by rw [← em]; exact hm.heap P _ (nwr P _ atP) (hk5 P _ atP3)) (AllBare.movedS (I1.bare.push hgb) hm)
        rw [GxR.sh_eta s1 s' hm.os] at J
        exact ⟨upd H1 P (.tbl (ps ++ more)), ⟨⟨ps ++ more, upd_same, by rw [← em]; exact ht3⟩, fun b hb => upd_ne hb⟩, J⟩
  refine ⟨nolim, ?_⟩
  cases hf : codeAmong gpos ps.toList with
  | none =>
    refine wpAny_genexprCodeX hcode (cd.code atP2 ht) (cd.tab atP2) hf fun c' h' tk hx hge hlt hco' _ htab' _ => ?_
    obtain ⟨o1, vs, f1, tf, fl, tg, inF, tx, tt, op, _, _, _, _, _, _, _, _, _, htr, _⟩ := hco'
    exact rest _ h' tk _ hx (Nat.le_trans hge (Nat.le_of_lt hlt)) htab'.2 ⟨_, rfl⟩ htr
  | some cv =>
    refine wpAny_genexprCode_hit hcode (cd.code atP2 ht) hf ?_
    exact rest cv (s1.heap.push o) s1.toks ps (Heap.ExtBut.refl _ _) (Nat.le_refl _) atP2 ⟨#[], by simp⟩ ht
end

/-! ### behind it the def's table may have grown -/
section
variable {g : G} {μ : List Addr} {S : Store} {H H2 : Hp} {P : Addr}
theorem Le.tab {K : PySem.W.Frag} (t : GxR.TabG H P) (h : GxR.Tabbed P H H2) : Le K H H2 := by
  obtain ⟨ps, e, _⟩ := t
  refine ⟨?_, fun a o u q => (h.2 a fun z => by rw [z, e] at q; cases q).trans q, fun a p q => (h.2 a fun z => by rw [z, e] at q; cases q).trans q⟩
  rintro a vs ((q | ⟨o, q⟩) | q)
  · exact .inl (.inl ((h.2 a fun z => by rw [z, e] at q; cases q).trans q))
  · exact .inl (.inr ⟨o, (h.2 a fun z => by rw [z, e] at q; cases q).trans q⟩)
  · exact .inr q
theorem RS.tab (rs : RS g μ S H) (t : GxR.TabG H P) (hu : ∀ p ∈ g.T, p.1 = P → p.2 = none) (h : GxR.Tabbed P H H2) : RS g μ S H2 := by
  have l : Le g.K H H2 := .tab t h
  obtain ⟨ps, e, _⟩ := t
  have same : ∀ {a : Addr} {o : HO}, H a = some o → (∀ ps, o ≠ .tbl ps) → H2 a = some o := fun {a o} q n => (h.2 a fun z => by
    rw [z, e] at q
    exact n ps (Option.some.inj q).symm).trans q
  refine ⟨rs.len, rs.nd, fun l' a o h1 h2 => ?_, fun p hp => ?_⟩
  · have r := rs.obj l' a o h1 h2
    cases o with
    | lst xs => obtain ⟨vs, q, rr⟩ := r; exact ⟨vs, same q (fun _ z => by cases z), rr.mono .refl l⟩
    | rol xs =>
      obtain ⟨vs, q, rr⟩ := r
      refine ⟨vs, ?_, rr.mono .refl l⟩
      rcases q with ⟨o, q⟩ | q
      · exact .inl ⟨o, same q (fun _ z => by cases z)⟩
      · exact .inr q
    | dic kvs => obtain ⟨ks, q, rr⟩ := r; exact ⟨ks, same q (fun _ z => by cases z), rr.mono .refl l⟩
    | ins c fs => obtain ⟨C, dx, vs, q1, q, rr⟩ := r; exact ⟨C, dx, vs, q1, same q (fun _ z => by cases z), rr.mono .refl l⟩
    | lam j => obtain ⟨c, q1, q2⟩ := r; exact ⟨c, same q1 (fun _ z => by cases z), same q2 (fun _ z => by cases z)⟩
    | rdc kvs => obtain ⟨o2, ks, q, rr⟩ := r; exact ⟨o2, ks, same q (fun _ z => by cases z), rr.mono .refl l⟩
  · obtain ⟨P', q'⟩ := p
    by_cases z : P' = P
    · have e9 := hu _ hp z
      have e9 : q' = none := e9
      subst e9 z
      exact h.1
    · have old := rs.tabs _ hp
      cases q' with
      | none =>
        obtain ⟨qs, q, tq⟩ := old
        exact ⟨qs, (h.2 P' z).trans q, tq⟩
      | some q9 =>
        obtain ⟨qs, q, tq, n⟩ := old
        refine ⟨qs, (h.2 P' z).trans q, tq, fun pos cv hc => ?_⟩
        obtain ⟨c, e1, e2⟩ := n pos cv hc
        exact ⟨c, e1, same e2 (fun _ z => by cases z)⟩
end

/-! ### the items: texts -/
def Pz (items : List (List Nat)) (i : Nat) (v : Value) : Prop := ∃ (a : List Nat) (t : Tok), items[i]? = some a ∧ v = .str ⟨a.toArray⟩ t
section
variable {X : Cx} {g : G} {W : WX} {scope : Scope} {x y : Str} {px py pc p3 : Pos} {j : Nat} {items : List (List Nat)}
/-- x in 'k' -/
theorem elq_inC (k : List Nat) (hk : scope.kind = .function) (hl : scope.names.lookup x = some .local) (h1 : ∀ a ∈ items, ∃ c, a = [c]) {z : Str} (hz : z = ⟨k.toArray⟩ := by decide +kernel) (hd : (x == ("__debug__" : Str)) = false := by decide) :
    ElQ X scope x (.Compare (.Name x px) [.In] [.Constant (.str z) j pc] p3) (Pz items) fun i v => ∃ c, items[i]? = some [c] ∧ v = .bool (decide (c ∈ k)) := by
  subst hz
  intro cenv A' E' i v s₂ m₂ hs hg hp hn hm hG
  obtain ⟨a, t, ha, rfl⟩ := hp
  obtain ⟨c, rfl⟩ := h1 a (List.mem_of_getElem? ha)
  refine wpAny_Compare1 ?_ (by first | rfl | exact nomark _)
  refine wpAny_Name (wpAny_loadName_local (by rw [hs]; exact hk) (show cenv.scope.names.lookup x = some .local by rw [hs]; exact hl) hn hm ?_) hd
  apply Calls.Constant_str
  refine PyProof.Rows.in_str ?_
  refine ⟨⟨c, ha, ?_⟩, GxR.keeps_tok _ _⟩
  have := PySem.StrLaws.found_one (⟨k.toArray⟩ : Str) c
  rw [scps] at this
  first
    | exact congrArg Value.bool this
    | (rw [this])
/-- x in y, y a text of the module -/
theorem elq_inG (k : List Nat) (hk : scope.kind = .function) (hl : scope.names.lookup x = some .local) (hy : scope.names.lookup y = some .globalImplicit) (hm' : ∃ t, X.mg y = some (.str ⟨k.toArray⟩ t)) (h1 : ∀ a ∈ items, ∃ c, a = [c]) (hd : (x == ("__debug__" : Str)) = false := by decide) (hd2 : (y == ("__debug__" : Str)) = false := by decide) :
    ElQ X scope x (.Compare (.Name x px) [.In] [.Name y py] p3) (Pz items) fun i v => ∃ c, items[i]? = some [c] ∧ v = .bool (decide (c ∈ k)) := by
  intro cenv A' E' i v s₂ m₂ hs hg hp hn hm hG
  obtain ⟨a, t, ha, rfl⟩ := hp
  obtain ⟨c, rfl⟩ := h1 a (List.mem_of_getElem? ha)
  obtain ⟨t', hm'⟩ := hm'
  refine wpAny_Compare1 ?_ (by first | rfl | exact nomark _)
  refine wpAny_Name (wpAny_loadName_local (by rw [hs]; exact hk) (show cenv.scope.names.lookup x = some .local by rw [hs]; exact hl) hn hm ?_) hd
  refine Calls.Name_function_global (by rw [hs]; exact hk) (show cenv.scope.names.lookup y = some .globalImplicit by rw [hs]; exact hy) (Calls.loadGlobal_global (by rw [hg]; exact hG) hm' ?_) hd2
  refine PyProof.Rows.in_str ?_
  refine ⟨⟨c, ha, ?_⟩, GxR.keeps_refl _⟩
  have := PySem.StrLaws.found_one (⟨k.toArray⟩ : Str) c
  rw [scps] at this
  first
    | exact congrArg Value.bool this
    | (rw [this])
/-- 'k' + x -/
theorem elq_addC (k : List Nat) (hk : scope.kind = .function) (hl : scope.names.lookup x = some .local) (h1 : ∀ a ∈ items, k.length + a.length ≤ LINE) {z : Str} (hz : z = ⟨k.toArray⟩ := by decide +kernel) (hd : (x == ("__debug__" : Str)) = false := by decide) :
    ElQ X scope x (.BinOp (.Constant (.str z) j pc) .Add (.Name x px) p3) (Pz items) fun i v => ∃ (a : List Nat) (t : Tok), items[i]? = some a ∧ v = .str ⟨(k ++ a).toArray⟩ t := by
  subst hz
  intro cenv A' E' i v s₂ m₂ hs hg hp hn hm hG
  obtain ⟨a, t, ha, rfl⟩ := hp
  have hz := h1 a (List.mem_of_getElem? ha)
  apply wpAny_BinOp
  apply Calls.Constant_str
  refine wpAny_Name (wpAny_loadName_local (by rw [hs]; exact hk) (show cenv.scope.names.lookup x = some .local by rw [hs]; exact hl) hn hm ?_) hd
  refine PyProof.Rows.add_str (fun t' tk => ?_) (by rw [slen, slen, line_eq]; exact hz)
  rw [sapp]
  exact ⟨⟨a, t', ha, rfl⟩, GxR.keeps_tok _ _⟩
end
/-! ### the texts that are walked -/
/-- what a text or a tuple of texts hands on -/
def itemsQ : PV → Option (List (List Nat))
  | .str s => some (s.map fun c => [c])
  | .tup xs => strsOf xs
  | _ => none
section
variable {X : Cx} {pins : List (Addr × Obj)} {σ : St} {H : Hp} {s : Shared} {g : G} {W : WX} {c P : Addr} {elt iter : Expr} {x : Str} {px p pos gpos : Pos} {scope : Scope} {k : Nat} {F : Nat → Value → Prop} {Q' : Value → Shared → Prop} {items : List (List Nat)} {v : PV} {xv : Value} {y : V} {μ : List Addr}
/-- the generator expression over what has come -/
theorem gen_over (hK : X.K = g.K) (hr : Room k X.A) (TB : GxR.TabB X.base X.mg c P) (hcode : X.env.code = .ref c) (S : GxR.GenS X.env scope x) (hel : ElQ X scope x elt (Pz items) F) (I : Inv X pins σ H s) (rv : Rp g.K μ H v y) (r1 : RelV y xv) (hit : itemsQ v = some items) (tG : GxR.TabG H P)
    (hQ : ∀ g' s5, ReadyG X pins σ H P items.length F g' s5 → Q' (.ref g') s5) :
    wpAny (model X.prog X.w) X.A (pyIter xv) (fun it s₂ => s₂.heap.NoLimit ∧
      wpAny (model X.prog X.w) X.A (genexprCode X.env gpos (X.env.qual ++ "<genexpr>") scope) (fun code s₃ => wpAny (model X.prog X.w) X.A (builtinsFor X.env.globals X.env.builtins) (fun bi s₄ =>
        ∃ I fp wr n₀ P St₀ pz F, it = .ref I ∧ (∀ A' : Around, A'.handled = none → Walks X.prog X.w A' I fp wr n₀ P St₀) ∧ St₀ 0 s₄.heap ∧ (∀ b ∈ fp, b < s₄.heap.objs.size) ∧ s₄.heap.NoLimit ∧ cStatics ∉ wr ∧
          (∀ href : Heap, (∀ b o, s₄.heap.get? b = some o → href.get? b = some o) →
            QuietGen X.prog X.w (genEnv scope (cloFrom X.env.cells scope.names []) s₄.heap.objs.size code bi X.env) x [] elt (List.range s₄.heap.objs.size) wr P pz F href) ∧
          (∀ a h₅ tk gs, gs.bare = true → s₄.heap.objs.size < a → h₅.objs.size = a + 1 → (∀ b o, s₄.heap.get? b = some o → h₅.get? b = some o) →
            WalksS X.prog X.w X.A.in4 a (a :: s₄.heap.objs.size :: List.range s₄.heap.objs.size) (s₄.heap.objs.size :: wr) (GenOnlyQ s₄.gens.size) (passing pz n₀ 0).length
              (fun j y => ∃ i, (passing pz n₀ 0)[j]? = some i ∧ F i y) (GenAt X.prog X.w X.A.in4 a s₄.gens.size s₄.heap.objs.size (List.range s₄.heap.objs.size) wr pz n₀ F) →
            GenAt X.prog X.w X.A.in4 a s₄.gens.size s₄.heap.objs.size (List.range s₄.heap.objs.size) wr pz n₀ F 0 { s₄ with gens := s₄.gens.push gs, toks := tk, heap := h₅ } →
            Q' (.ref a) { s₄ with gens := s₄.gens.push gs, toks := tk, heap := h₅ })) X.xe s₃) X.xe s₂) X.xe s := by
  obtain ⟨ps, hP, ht⟩ := tG
  have atP : s.heap.get? P = some { cls := .none, data := .fields ps } := I.hok P _ hP
  have ltP : P < s.heap.objs.size := Heap.lt_size atP
  unfold itemsQ at hit
  split at hit
  · rename_i z
    cases hit
    cases rv
    obtain ⟨t, rfl⟩ := r1
    refine wpAny_pyIter_str fun o St Wk hst => ?_
    have en : ((z.map fun c => [c]) : List (List Nat)).length = (⟨z.toArray⟩ : Str).cps.size := by simp
    refine gen_core (n := (z.map fun c => [c]).length) (fp := [s.heap.objs.size]) hr TB hcode S I hP ht (fun A' hA => ?_) hst (fun b hb => ?_) hel hQ
    · have w0 := Wk A' hA
      rw [en]
      refine w0.weaken fun i v' hv => ?_
      obtain ⟨cc, u, hcc, rfl⟩ := hv
      refine ⟨[cc], u, ?_, rfl⟩
      rw [List.getElem?_map]
      have e9 : z[i]? = some cc := by simpa using hcc
      rw [e9]; rfl
    · rw [List.mem_singleton] at hb
      rw [hb]
      exact ⟨Nat.le_refl _, Nat.ne_of_gt ltP⟩
  · rename_i xs
    cases rv with
    | @tup ta _ _ h r =>
      obtain rfl : xv = Value.ref ta := r1
      have hv := strsOf_vals r hit
      subst hv
      obtain ⟨its, rvs, hl, hz⟩ := I.tuple (hK ▸ h)
      have hT : s.heap.IsTuple ta its.toArray := hl
      obtain ⟨ot, hot, hcls, _⟩ := id hT
      have lt : _ < s.heap.objs.size := Heap.lt_size hot
      have hlen : its.toArray.size = items.length := by
        have := rvs.length
        simp at this
        simpa using this.symm
      refine wpAny_pyIter_tuple hT ?_
      refine gen_core (n := items.length) (fp := [s.heap.objs.size, ta]) (St := fun i h' => h'.IsTupleIter s.heap.objs.size ta i ∧ h'.IsTuple ta its.toArray) hr TB hcode S I hP ht (fun A' hA => ?_) ⟨⟨_, Heap.get?_push_size _ rfl, rfl, rfl⟩, hT.push _⟩ (fun b hb => ?_) hel hQ
      · rw [← hlen]
        refine (Walks.tuple hA _ _ (Nat.ne_of_lt lt) _).weaken fun i v' hv => ?_
        have hv2 : its[i]? = some v' := by simpa using hv
        have hi2 : i < its.length := (List.getElem?_eq_some_iff.mp hv2).1
        have hl2 : its.length = items.length := by simpa using hlen
        obtain ⟨u, hu, ru⟩ := rvs.get (i := i) (x := V.str ⟨(items[i]'(by omega)).toArray⟩) (by rw [List.getElem?_map, List.getElem?_map, List.getElem?_eq_getElem (by omega)]; rfl)
        rw [hv2] at hu
        cases hu
        obtain ⟨t, e⟩ := ru
        exact ⟨_, t, List.getElem?_eq_getElem _, e⟩
      · rcases List.mem_cons.mp hb with z | z
        · rw [z]; exact ⟨Nat.le_refl _, Nat.ne_of_gt ltP⟩
        · rw [List.mem_singleton] at z
          rw [z]
          refine ⟨Nat.le_of_lt lt, fun e => ?_⟩
          rw [e, atP] at hot
          cases hot
          cases hcls
  · cases hit
/-- the generator expression as an argument -/
theorem gen_arg {fi : EF} (hK : X.K = g.K) (hr : Room k X.A) (TB : GxR.TabB X.base X.mg c P) (hT : (P, none) ∈ g.T) (huT : ∀ p ∈ g.T, p.1 = P → p.2 = none) (hcode : X.env.code = .ref c) (S : GxR.GenS X.env scope x) (hi : SE X g W iter fi) (hs : ∀ v, genFold iter X.env v = pure v) (I : Inv X pins σ H s)
    (h : tEv g W fi σ H fun y H1 => ∃ (μ : List Addr) (v : PV) (S1 : Store) (items : List (List Nat)) (F : Nat → Value → Prop), RS g μ S1 H1 ∧ Rp g.K μ H1 v y ∧ itemsQ v = some items ∧ ElQ X scope x elt (Pz items) F ∧ ∀ g' s5, ReadyG X pins σ H1 P items.length F g' s5 → Q' (.ref g') s5) :
    wpAny (model X.prog X.w) X.A (eval (.GeneratorExp elt [⟨.Name x px, iter, [], 0⟩] scope gpos) X.env) Q' X.xe s := by
  refine wpAny_GeneratorExp_walksQ hr.hd S.co (closure_ok S.free) S.cell S.dot S.loc S.kind (by have := hr.dp; omega) ?_ hs
  refine thn (hi.run pins s σ H _ I h) ?_
  rintro xv s1 ⟨y, H1, I1, r1, μ, v, S1, items, F, rs, rv, hit, hel, hQ⟩
  exact gen_over hK hr TB hcode S hel I1 rv r1 hit (rs.tabs _ hT) hQ
/-- a test of a sign -/
def EQb (X : Cx) (scope : Scope) (x : Str) (elt : Expr) (p : Nat → Bool) : Prop := ∀ items : List (List Nat), (∀ a ∈ items, ∃ c, a = [c]) → ElQ X scope x elt (Pz items) fun i v => ∃ c, items[i]? = some [c] ∧ v = .bool (p c)
def eAllS (fi : EF) (p : Nat → Bool) : EF := fun ρ S => (fi ρ S).bind fun v S1 => match v with
  | .str s => .ok (.bl (s.all p)) S1
  | _ => .bad
theorem se_allS {fi : EF} {p : Nat → Bool} {pn : Pos} (hK : X.K = g.K) (hr : Room k X.A) (hg : Gl X "all") (hm : X.mg "all" = none) (hb : bootBuiltins "all" = some (.builtin "all")) (TB : GxR.TabB X.base X.mg c P) (hT : (P, none) ∈ g.T) (huT : ∀ p ∈ g.T, p.1 = P → p.2 = none) (hcode : X.env.code = .ref c) (S : GxR.GenS X.env scope x)
    (hi : SE X g W iter fi) (hel : EQb X scope x elt p) (hs : ∀ v, genFold iter X.env v = pure v)
    (he : starEach [.GeneratorExp elt [⟨.Name x px, iter, [], 0⟩] scope gpos] X.env = (false, eval (.GeneratorExp elt [⟨.Name x px, iter, [], 0⟩] scope gpos) X.env) :: starEach [] X.env := by rfl) :
    SE X g W (.Call (.Name "all" pn) [.GeneratorExp elt [⟨.Name x px, iter, [], 0⟩] scope gpos] [] pos) (eAllS fi p) := by
  constructor
  intro pins s σ H Q I h
  refine wpAny_Call_Name_kw (ld_blt I hg hm hb ?_)
  refine PyProof.Rows.callWith_builtin1 ?_ he (by rfl)
  rw [he]
  show wpAny _ _ (spliced ((false, eval (.GeneratorExp elt [⟨.Name x px, iter, [], 0⟩] scope gpos) X.env) :: backTo pos (starEach [] X.env))) _ _ s
  apply Calls.spliced_cons
  refine gen_arg hK hr TB hT huT hcode S hi hs I ?_
  obtain ⟨μ, ρ, S0, re, rs, p0⟩ := h
  refine ⟨μ, ρ, S0, re, rs, (Post.bind (r := fi ρ S0) p0).imp fun y H1 ⟨μ1, v, S1, p1, l1, rs1, rv, q⟩ => ?_⟩
  split at q
  · rename_i z
    refine ⟨μ1, _, S1, z.map (fun c => [c]), _, rs1, rv, rfl, hel _ ?_, ?_⟩
    · intro a ha
      obtain ⟨cc, _, e⟩ := List.mem_map.mp ha
      exact ⟨cc, e.symm⟩
    · rintro g' s5 ⟨fp, wr, Gg, F', St, Wk, hF, hst, _, _, _, hI⟩
      apply Calls.spliced_nil
      refine call_all_walkS (Wk.in4_1.self 0 _ _ _ hst ⟨g', fp, wr, Gg, _, F', St, GxR.trF p z, rfl, Wk.in4_1, hst, ?_, fun s' hmv => ?_⟩)
      · intro jj yv sj Qj Ej hy hQj
        obtain ⟨cc, hcc, rfl⟩ := hF jj yv hy
        rw [List.getElem?_map] at hcc
        have e9 : z[jj]? = some cc := by
          cases ez : z[jj]? with
          | none => rw [ez] at hcc; cases hcc
          | some d => rw [ez] at hcc; cases hcc; rfl
        have hQ2 : Qj (GxR.trF p z jj) sj := hQj
        rw [GxR.trF_some e9] at hQ2
        exact wpAny_truthy_bool hQ2
      · obtain ⟨H2, hTb, J⟩ := hI s' hmv
        refine ⟨.bl _, H2, J, rfl, ?_⟩
        rw [List.length_map, GxR.all_trF]
        have tG : GxR.TabG H1 P := rs1.tabs _ hT
        exact q μ1 _ H2 .refl (.tab tG hTb) (rs1.tab tG huT hTb) (.bl _)
  · exact q.elim
/-- tuple('k' + x for x in ..) -/
def eTupS (fi : EF) (kk : List Nat) : EF := fun ρ S => (fi ρ S).bind fun v S1 => match itemsQ v with
  | some items => if (items.all fun a => decide (kk.length + a.length ≤ LINE)) && decide (items.length ≤ LINE) then .ok (.tup (items.map fun a => PV.str (kk ++ a))) S1 else .bad
  | none => .bad
def EQs (X : Cx) (scope : Scope) (x : Str) (elt : Expr) (kk : List Nat) : Prop := ∀ items : List (List Nat), (∀ a ∈ items, kk.length + a.length ≤ LINE) → ElQ X scope x elt (Pz items) fun i v => ∃ (a : List Nat) (t : Tok), items[i]? = some a ∧ v = .str ⟨(kk ++ a).toArray⟩ t
theorem strs_at {ws : List (List Nat)} : ∀ {acc : List Value}, acc.length = ws.length → (∀ (i : Nat) (v : Value), acc[i]? = some v → ∃ (a : List Nat) (t : Tok), ws[i]? = some a ∧ v = Value.str ⟨a.toArray⟩ t) → Vals (ws.map fun a => V.str ⟨a.toArray⟩) acc := by
  induction ws with
  | nil => intro acc hl _; cases acc with | nil => exact .nil | cons a b => cases hl
  | cons w ws ih =>
    intro acc hl h
    cases acc with
    | nil => cases hl
    | cons a acc =>
      obtain ⟨b, t, h1, h2⟩ := h 0 a rfl
      cases h1
      exact .cons ⟨t, h2⟩ (ih (Nat.succ.inj hl) fun i v e => h (i + 1) v e)
theorem Rps.strs {K : PySem.W.Frag} {μ : List Addr} {H : Hp} : ∀ (ws : List (List Nat)), Rps K μ H (ws.map PV.str) (ws.map fun a => V.str ⟨a.toArray⟩)
  | [] => .nil
  | a :: ws => .cons (.str a) (Rps.strs ws)
theorem se_tupS {fi : EF} {kk : List Nat} {pn : Pos} (hK : X.K = g.K) (hr : Room k X.A) (hg : Gl X "tuple") (hm : X.mg "tuple" = none) (hb : bootBuiltins "tuple" = some (.type "tuple")) (TB : GxR.TabB X.base X.mg c P) (hT : (P, none) ∈ g.T) (huT : ∀ p ∈ g.T, p.1 = P → p.2 = none) (hcode : X.env.code = .ref c) (S : GxR.GenS X.env scope x)
    (hi : SE X g W iter fi) (hel : EQs X scope x elt kk) (hs : ∀ v, genFold iter X.env v = pure v)
    (he : starEach [.GeneratorExp elt [⟨.Name x px, iter, [], 0⟩] scope gpos] X.env = (false, eval (.GeneratorExp elt [⟨.Name x px, iter, [], 0⟩] scope gpos) X.env) :: starEach [] X.env := by rfl) :
    SE X g W (.Call (.Name "tuple" pn) [.GeneratorExp elt [⟨.Name x px, iter, [], 0⟩] scope gpos] [] pos) (eTupS fi kk) := by
  constructor
  intro pins s σ H Q I h
  refine wpAny_Call_Name_kw (ld_blt I hg hm hb ?_)
  refine PyProof.Rows.callWith_type1 ?_ he (by rfl)
  rw [he]
  show wpAny _ _ (spliced ((false, eval (.GeneratorExp elt [⟨.Name x px, iter, [], 0⟩] scope gpos) X.env) :: backTo pos (starEach [] X.env))) _ _ s
  apply Calls.spliced_cons
  refine gen_arg hK hr TB hT huT hcode S hi hs I ?_
  obtain ⟨μ, ρ, S0, re, rs, p0⟩ := h
  refine ⟨μ, ρ, S0, re, rs, (Post.bind (r := fi ρ S0) p0).imp fun y H1 ⟨μ1, v, S1, p1, l1, rs1, rv, q⟩ => ?_⟩
  split at q
  · rename_i items hit
    split at q
    · rename_i hc
      rw [Bool.and_eq_true, List.all_eq_true] at hc
      have hlen := of_decide_eq_true hc.2
      refine ⟨μ1, v, S1, items, _, rs1, rv, hit, hel _ fun a ha => of_decide_eq_true (hc.1 a ha), ?_⟩
      rintro g' s5 ⟨fp, wr, Gg, F', St, Wk, hF, hst, hfp, hgm, hty, hI⟩
      apply Calls.spliced_nil
      refine call_tuple_gen (WalksS.in4_3 Wk) hty hst hfp hgm (fun s' acc hmv hacc => ?_) (by rw [line_eq]; exact hlen)
      obtain ⟨H2, hTb, J⟩ := hI s' hmv
      have tG : GxR.TabG H1 P := rs1.tabs _ hT
      have hv : Vals ((items.map fun a => kk ++ a).map fun a => V.str ⟨a.toArray⟩) acc.toList := by
        refine strs_at (by have := hacc.1; simp [this]) fun i v' e => ?_
        obtain ⟨a, t, e1, e2⟩ := hF i v' (hacc.2 i v' (by rw [← Array.getElem?_toList]; exact e))
        exact ⟨kk ++ a, t, by rw [List.getElem?_map, e1]; rfl, e2⟩
      have hfr : H2 s'.heap.objs.size = none := J.hok.fresh (Nat.le_refl _)
      refine ⟨.ref s'.heap.objs.size, upd H2 s'.heap.objs.size (.tup ((items.map fun a => kk ++ a).map fun a => V.str ⟨a.toArray⟩)), J.laid (t' := s'.toks) (fun c o e => Heap.get?_push_of_some _ e) (Nat.le_refl _)
        (show ObjOk X.prog X.w _ _ _ (.tup ((items.map fun a => kk ++ a).map fun a => V.str ⟨a.toArray⟩)) from ⟨by rw [List.length_map, List.length_map, line_eq]; exact hlen, acc.toList, hv, by rw [Array.toArray_toList]; exact IsTup.new _ _⟩), rfl, ?_⟩
      have rs2 := rs1.tab tG huT hTb
      refine q μ1 _ _ .refl ((Le.tab tG hTb).trans (.upd (.none hfr))) (rs2.laid hfr) ?_
      have r := Rp.newT (g := g) (μ := μ1) hfr (Rps.strs (K := g.K) (μ := μ1) (H := H2) (items.map fun a => kk ++ a))
      have e9 : (items.map fun a => kk ++ a).map PV.str = items.map fun a => PV.str (kk ++ a) := by rw [List.map_map]; rfl
      rw [e9] at r
      exact r
    · exact q.elim
  · exact q.elim
end
end Ev


/-! Ev: lambdas as values, try. -/
namespace Ev
open PySem PySem.Spec PyProof.Rows L2
/-! ### a lambda made -/
section
variable {X : Cx} {pins : List (Addr × Obj)} {σ : L2.St} {H : Hp} {s : Shared} {g : G} {W : WX} {pos : Pos}
theorem ext_ok {P : Program} {w : World} {H : Hp} {h : Heap} {t : LamT} {f c : Addr} {pm ctv : Value} (e : h.get? f = some (PySem.W.kla_obj "<lambda>" t.q t.params t.body t.scope [] pm c ctv)) : ObjOk P w H h f (LamO t f c) :=
  ⟨⟨pm, ctv, e⟩, ⟨_, e⟩, fun h1 h2 ⟨pm, ctv, a⟩ st => ⟨pm, ctv, st _ a⟩⟩
theorem lam_made {c P : Addr} {t : LamT} {E : Value → Shared → Prop} {Q : Value → Shared → Prop} (I : Inv X pins σ H s) (TB : LamX.TabB X.base X.mg c P) (hcode : X.env.code = .ref c)
    (hq : t.q = X.env.qual ++ "<lambda>") (tS : LamX.TabS H P t.q) (hdef : defaultsOf t.params X.env = ([], [])) (hnf : ∀ y ∈ t.scope.names, y.2 ≠ .free) (hcl : cloFrom X.env.cells t.scope.names [] = [])
    (h : ∀ (f c' : Addr) (H1 : Hp) (s' : Shared), Inv X pins σ H1 s' → (∀ b o, b ≠ P → H b = some o → H1 b = some o) → LamX.TabS H1 P t.q → H1 f = some (LamO t f c') → H1 c' = some (LamX.CodeO c' t.q) → H f = none → Q (.ref f) s') :
    wpAny (model X.prog X.w) X.A (eval (.Lambda t.params t.body t.scope pos) X.env) Q E s := by
  obtain ⟨ps, hP, ht, ha⟩ := tS
  refine PySem.W.kla_eval hdef ?_
  have bP : s.heap.BuiltinsAt X.mg P := TB.bm.keeps I.bk
  have atP : s.heap.get? P = some { cls := .none, data := .fields ps } := I.hok P _ hP
  have hfree : ∀ y ∈ t.scope.names, y.2 = .free → ∃ c, X.env.cells.lookup y.1 = some c := fun y hy e => absurd e (hnf y hy)
  cases hc : codeAmong pos ps.toList with
  | none =>
    refine PySem.W.kla_makeFunction (mg := X.mg) (c := c) (P := P) (ps := ps) (closure_ok hfree) I.ok.glob (I.mod.glob.keeps I.bk) hcode (TB.code.keeps I.bk) atP ht hc TB.gP bP fun c' ctv h' tk hx hge hlt hrec htb => ?_
    obtain ⟨c2, oc, vs, t9, e2, hoc, hd, hv⟩ := hrec
    cases e2
    have hsz : s.heap.objs.size ≤ h'.objs.size := Nat.le_trans hge (Nat.le_of_lt hlt)
    have nC : H c' = none := I.hok.fresh hge
    have hv' : vs[1]? = some (.str t.q t9) := by rw [hq]; exact hv
    have I1 := LamX.inv_table (q := t.q) (t' := tk) (more := #[rawInt pos.line, rawInt pos.col, .ref c']) (h' := h') I hP (fun b o hb e => hx b o hb e) htb hge ⟨oc, vs, t9, hoc, hd, hv'⟩
    have nF : H h'.objs.size = none := I.hok.fresh hsz
    have n1 : h'.objs.size ≠ c' := Nat.ne_of_gt hlt
    have n2 : h'.objs.size ≠ P := Nat.ne_of_gt (Nat.lt_of_lt_of_le (Heap.lt_size atP) hsz)
    have eF : (h'.push (PySem.W.kla_obj "<lambda>" (X.env.qual ++ "<lambda>") t.params t.body t.scope (cloFrom X.env.cells t.scope.names []) ((X.mg "__name__").getD .none) c' ctv)).get? h'.objs.size = some (PySem.W.kla_obj "<lambda>" t.q t.params t.body t.scope [] ((X.mg "__name__").getD .none) c' ctv) := by
      rw [hcl, hq]
      exact Heap.get?_push_size _ rfl
    have I2 := I1.laid (t' := tk) (a := h'.objs.size) (o := LamO t h'.objs.size c') (fun b o e => Heap.get?_push_of_some (PySem.W.kla_obj "<lambda>" (X.env.qual ++ "<lambda>") t.params t.body t.scope (cloFrom X.env.cells t.scope.names []) ((X.mg "__name__").getD .none) c' ctv) e) (Nat.le_refl _) (ext_ok eF)
    have old : ∀ b o, b ≠ P → H b = some o → upd (upd (upd H P (.tbl (ps ++ #[rawInt pos.line, rawInt pos.col, .ref c']))) c' (LamX.CodeO c' t.q)) h'.objs.size (LamO t h'.objs.size c') b = some o := fun b o hb e => by
      rw [upd_ne (ne_of_none e nF), upd_ne (ne_of_none e nC), upd_ne hb]
      exact e
    have nPc : P ≠ c' := ne_of_none hP nC
    have eL : (ps ++ #[rawInt pos.line, rawInt pos.col, .ref c']).toList = ps.toList ++ [rawInt pos.line, rawInt pos.col, .ref c'] := by simp
    refine h h'.objs.size c' _ _ I2 old ⟨ps ++ #[rawInt pos.line, rawInt pos.col, .ref c'], ?_, ?_, fun p' cv hcv => ?_⟩ upd_same (by rw [upd_ne (Ne.symm n1), upd_same]) nF
    · rw [upd_ne (Ne.symm n2), upd_ne nPc, upd_same]
    · rw [eL]; exact PySem.TriplesOk_snoc _ _ _ _ ht
    · rw [eL] at hcv
      rcases LamX.among_app _ ht hcv with z | z
      · obtain ⟨c0, e1, e2⟩ := ha p' cv z
        refine ⟨c0, e1, old _ _ (fun z => ?_) e2⟩
        rw [z, hP] at e2
        exact LamX.codeO_ne ps (Option.some.inj e2).symm
      · exact ⟨c', z, by rw [upd_ne (Ne.symm n1), upd_same]⟩
  | some cv =>
    obtain ⟨c', e, hco⟩ := ha pos cv hc
    subst e
    refine PySem.W.kla_makeFunctionHit (mg := X.mg) (c := c) (P := P) (ps := ps) (closure_ok hfree) I.ok.glob (I.mod.glob.keeps I.bk) hcode (TB.code.keeps I.bk) atP ht hc bP fun ctv h' tk hx hsz => ?_
    have nF : H h'.objs.size = none := I.hok.fresh hsz
    have I1 : Inv X pins σ H { s with heap := h', toks := tk } := I.kept hx
    have eF : (h'.push (PySem.W.kla_obj "<lambda>" (X.env.qual ++ "<lambda>") t.params t.body t.scope (cloFrom X.env.cells t.scope.names []) ((X.mg "__name__").getD .none) c' ctv)).get? h'.objs.size = some (PySem.W.kla_obj "<lambda>" t.q t.params t.body t.scope [] ((X.mg "__name__").getD .none) c' ctv) := by
      rw [hcl, hq]
      exact Heap.get?_push_size _ rfl
    have I2 := I1.laid (t' := tk) (a := h'.objs.size) (o := LamO t h'.objs.size c') (fun b o e => Heap.get?_push_of_some (PySem.W.kla_obj "<lambda>" (X.env.qual ++ "<lambda>") t.params t.body t.scope (cloFrom X.env.cells t.scope.names []) ((X.mg "__name__").getD .none) c' ctv) e) (Nat.le_refl _) (ext_ok eF)
    have old : ∀ b o, H b = some o → upd H h'.objs.size (LamO t h'.objs.size c') b = some o := fun b o e => by
      rw [upd_ne (ne_of_none e nF)]
      exact e
    refine h h'.objs.size c' _ _ I2 (fun b o _ e => old b o e) ⟨ps, old _ _ hP, ht, fun p' cv' hcv => ?_⟩ upd_same (old _ _ hco) nF
    obtain ⟨c0, e1, e2⟩ := ha p' cv' hcv
    exact ⟨c0, e1, old _ _ e2⟩
end
section
variable {g : G} {μ : List Addr} {S : Store} {H H1 : Hp} {P : Addr}
theorem Le.but {K : PySem.W.Frag} {ps : Array Value} (e : H P = some (.tbl ps)) (h : ∀ b o, b ≠ P → H b = some o → H1 b = some o) : Le K H H1 := by
  refine ⟨?_, fun a o u q => h a _ (fun z => by rw [z, e] at q; cases q) q, fun a p q => h a _ (fun z => by rw [z, e] at q; cases q) q⟩
  rintro a vs ((q | ⟨o, q⟩) | q)
  · exact .inl (.inl (h a _ (fun z => by rw [z, e] at q; cases q) q))
  · exact .inl (.inr ⟨o, h a _ (fun z => by rw [z, e] at q; cases q) q⟩)
  · exact .inr q
theorem Ro.but {a : Addr} {so : SO} (r : Ro g μ H a so) {ps : Array Value} (e : H P = some (.tbl ps)) (h : ∀ b o, b ≠ P → H b = some o → H1 b = some o) : Ro g μ H1 a so := by
  have l : Le g.K H H1 := .but e h
  have same : ∀ {a : Addr} {o : HO}, H a = some o → (∀ ps, o ≠ .tbl ps) → H1 a = some o := fun {a o} q n => h a o (fun z => by
    rw [z, e] at q
    exact n ps (Option.some.inj q).symm) q
  cases so with
  | lst xs => obtain ⟨vs, q, rr⟩ := r; exact ⟨vs, same q (fun _ z => by cases z), rr.mono .refl l⟩
  | rol xs =>
    obtain ⟨vs, q, rr⟩ := r
    refine ⟨vs, ?_, rr.mono .refl l⟩
    rcases q with ⟨o, q⟩ | q
    · exact .inl ⟨o, same q (fun _ z => by cases z)⟩
    · exact .inr q
  | dic kvs => obtain ⟨ks, q, rr⟩ := r; exact ⟨ks, same q (fun _ z => by cases z), rr.mono .refl l⟩
  | ins c fs => obtain ⟨C, dx, vs, q1, q, rr⟩ := r; exact ⟨C, dx, vs, q1, same q (fun _ z => by cases z), rr.mono .refl l⟩
  | lam j => obtain ⟨c, q1, q2⟩ := r; exact ⟨c, same q1 (fun _ z => by cases z), same q2 (fun _ z => by cases z)⟩
  | rdc kvs => obtain ⟨o2, ks, q, rr⟩ := r; exact ⟨o2, ks, same q (fun _ z => by cases z), rr.mono .refl l⟩
theorem RS.but (rs : RS g μ S H) {q : Str} {ps : Array Value} (e : H P = some (.tbl ps)) (hu : ∀ p ∈ g.T, p.1 = P → p.2 = some q) (h : ∀ b o, b ≠ P → H b = some o → H1 b = some o) (t : LamX.TabS H1 P q) : RS g μ S H1 := by
  refine ⟨rs.len, rs.nd, fun l a o h1 h2 => (rs.obj l a o h1 h2).but e h, fun p hp => ?_⟩
  obtain ⟨P', q'⟩ := p
  by_cases z : P' = P
  · have e9 : q' = some q := hu _ hp z
    subst e9 z
    exact t
  · have old := rs.tabs _ hp
    cases q' with
    | none =>
      obtain ⟨qs, k, tq⟩ := old
      exact ⟨qs, h _ _ z k, tq⟩
    | some q9 =>
      obtain ⟨qs, k, tq, n⟩ := old
      refine ⟨qs, h _ _ z k, tq, fun pos cv hc => ?_⟩
      obtain ⟨c, e1, e2⟩ := n pos cv hc
      refine ⟨c, e1, h _ _ (fun z => ?_) e2⟩
      rw [z, e] at e2
      exact LamX.codeO_ne ps (Option.some.inj e2).symm
theorem Ro.pre {a : Addr} {so : SO} {μ' : List Addr} (r : Ro g μ H a so) (p : Pre μ μ') : Ro g μ' H a so := by
  cases so with
  | lst xs => obtain ⟨vs, q, rr⟩ := r; exact ⟨vs, q, rr.mono p .refl⟩
  | rol xs => obtain ⟨vs, q, rr⟩ := r; exact ⟨vs, q, rr.mono p .refl⟩
  | dic kvs => obtain ⟨ks, q, rr⟩ := r; exact ⟨ks, q, rr.mono p .refl⟩
  | ins c fs => obtain ⟨C, dx, vs, q1, q, rr⟩ := r; exact ⟨C, dx, vs, q1, q, rr.mono p .refl⟩
  | lam j => exact r
  | rdc kvs => obtain ⟨o2, ks, q, rr⟩ := r; exact ⟨o2, ks, q, rr.mono p .refl⟩
/-- a place of what is not changed -/
theorem RS.add (rs : RS g μ S H) {f : Addr} {so : SO} (m : so.mut = false) (r : Ro g (μ ++ [f]) H f so) : RS g (μ ++ [f]) (S ++ [so]) H := by
  have at1 : ∀ {l : Nat} {a : Addr}, (μ ++ [f])[l]? = some a → l < μ.length ∧ μ[l]? = some a ∨ l = μ.length ∧ a = f := fun {l a} e => by
    by_cases hl : l < μ.length
    · rw [List.getElem?_append_left hl] at e; exact .inl ⟨hl, e⟩
    · have h2 : l < (μ ++ [f]).length := (List.getElem?_eq_some_iff.mp e).1
      rw [List.length_append, List.length_singleton] at h2
      have h3 : l = μ.length := by omega
      subst h3
      rw [List.getElem?_append_right (Nat.le_refl _), Nat.sub_self] at e
      exact .inr ⟨rfl, (Option.some.inj e).symm⟩
  have at2 : ∀ {l : Nat} {o : SO}, l < μ.length → (S ++ [so])[l]? = some o → S[l]? = some o := fun {l o} hl e => by
    rw [List.getElem?_append_left (by rw [← rs.len]; exact hl)] at e; exact e
  have at3 : ∀ {o : SO}, (S ++ [so])[μ.length]? = some o → o = so := fun {o} e => by
    rw [List.getElem?_append_right (by rw [rs.len]; exact Nat.le_refl _), rs.len, Nat.sub_self] at e
    exact (Option.some.inj e).symm
  refine ⟨by rw [List.length_append, List.length_append, rs.len]; rfl, fun l l' a o o' e1 e2 e3 e4 m1 m2 => ?_, fun l a so' e1 e2 => ?_, rs.tabs⟩
  · rcases at1 e1 with ⟨h1, f1⟩ | ⟨h1, f1⟩ <;> rcases at1 e2 with ⟨h2, f2⟩ | ⟨h2, f2⟩
    · exact rs.nd l l' a o o' f1 f2 (at2 h1 e3) (at2 h2 e4) m1 m2
    · subst h2; rw [at3 e4, m] at m2; cases m2
    · subst h1; rw [at3 e3, m] at m1; cases m1
    · exact h1.trans h2.symm
  · rcases at1 e1 with ⟨h1, f1⟩ | ⟨rfl, rfl⟩
    · exact (rs.obj l a so' f1 (at2 h1 e2)).pre ⟨[f], rfl⟩
    · rw [at3 e2]; exact r
end
def eLam (j : Nat) : EF := fun _ S => .ok (.loc S.length) (S ++ [.lam j])
section
variable {X : Cx} {g : G} {W : WX} {pos : Pos} {c P : Addr}
theorem se_lam {params : Arguments} {body : Expr} {scope : Scope} {q : Str} (j : Nat) (hj : g.lt j = ⟨q, params, body, scope⟩) (TB : LamX.TabB X.base X.mg c P) (hcode : X.env.code = .ref c) (hq : q = X.env.qual ++ "<lambda>")
    (hT : (P, some q) ∈ g.T) (hu : ∀ p ∈ g.T, p.1 = P → p.2 = some q) (hdef : defaultsOf params X.env = ([], []) := by rfl) (hnf : ∀ y ∈ scope.names, y.2 ≠ .free := by decide) (hcl : cloFrom X.env.cells scope.names [] = [] := by rfl) :
    SE X g W (.Lambda params body scope pos) (eLam j) := by
  constructor
  intro pins s σ H Q I ⟨μ, ρ, S, re, rs, p⟩
  have tS : LamX.TabS H P q := rs.tabs _ hT
  obtain ⟨ps, hP, _⟩ := id tS
  refine lam_made (t := ⟨q, params, body, scope⟩) I TB hcode hq tS hdef hnf hcl fun f c' H1 s' I1 old t1 hf hc nF => ?_
  have rs1 : RS g μ S H1 := rs.but hP hu old t1
  have rs2 : RS g (μ ++ [f]) (S ++ [.lam j]) H1 := rs1.add rfl ⟨c', by rw [hj]; exact hf, by rw [hj]; exact hc⟩
  exact ⟨.ref f, H1, I1, rfl, p _ _ H1 ⟨[f], rfl⟩ (.but hP old) rs2 (.loc (by rw [← rs.len, List.getElem?_append_right (Nat.le_refl _), Nat.sub_self]; rfl))⟩
end
end Ev


/-! Ev: a local that holds a lambda, called; try. -/
namespace Ev
open PySem PySem.Spec PyProof.Rows L2
/-- the context of a lambda's body (no captured names), entered at s from the frames outer -/
def lamX (P : Program) (w : World) (K : PySem.W.Frag) (mg : Str → Option Value) (base : Heap) (t : LamT) (f c' : Addr) (A : Around) (outer : List Env) (s : Shared) (H : Hp) (E : XK) : Cx where
  prog := P
  w := w
  K := K
  mg := mg
  base := base
  A := A.deeper (PySem.W.envX t.q t.scope s.heap.objs.size f (.ref c') [])
  N := []
  s_0 := s
  H_0 := H
  env := PySem.W.envX t.q t.scope s.heap.objs.size f (.ref c') []
  outer := outer
  stack := PySem.W.envX t.q t.scope s.heap.objs.size f (.ref c') [] :: outer
  ex := []
  fn := fun _ => false
  calm := true
  pn := []
  xe := fun e s' => wpAny (model P w) (A.deeper (PySem.W.envX t.q t.scope s.heap.objs.size f (.ref c') [])) (leaving (PySem.W.envX t.q t.scope s.heap.objs.size f (.ref c') []) e) (fun _ s'' => L2.CX P w outer H s E e s'') (fun e' s'' => L2.CX P w outer H s E e' s'') s'
/-- only names of the module -/
structure LamG (scope : Scope) : Prop where
  kind : scope.kind = .function
  co : scope.isCoroutine = false
  gen : scope.isGenerator = false
  glob : ∀ y ∈ scope.names, y.2 ≠ .local ∧ y.2 ≠ .cell ∧ y.2 ≠ .free
section
variable {P : Program} {w : World} {K : PySem.W.Frag} {mg : Str → Option Value} {base : Heap} {A : Around} {outer : List Env} {s1 : Shared} {HZ : Hp} {E : XK}
theorem lam_start0 {t : LamT} {f c' : Addr} {h₁ : Heap} {tk : Nat} (L : LamG t.scope) (e0 : Env0 P w K mg base A outer s1 HZ) (hd : A.handled = none)
    (hns : h₁.Ns s1.heap.objs.size fun y => ([] : List (Str × Value)).reverse.lookup y) (kp : ∀ b o, s1.heap.get? b = some o → h₁.get? b = some o) :
    Inv (lamX P w K mg base t f c' A outer s1 HZ E) [] [] HZ { s1 with heap := h₁, toks := tk } := by
  have noA : ∀ b : Addr, b ∉ (lamX P w K mg base t f c' A outer s1 HZ E).ex := fun b z => absurd (show b ∈ ([] : List Addr) from z) (by simp)
  have nc : ∀ {y : Str} {c : Addr}, (lamX P w K mg base t f c' A outer s1 HZ E).env.cells.lookup y = some c → False := fun {y c} e => by
    have e : ([] : List (Str × Addr)).lookup y = some c := e
    cases e
  refine ⟨⟨e0.mod, L.kind, rfl, rfl, Nat.le_refl _, fun y z c e1 e2 => (nc e1).elim, fun y hy => ?_, fun y c z _ => ?_, fun _ => hd, Around.frames_deeper e0.frames, .inr ⟨rfl, rfl⟩, fun b z => absurd z (noA b), e0.bs, e0.bsz, fun b _ _ => noA b,
      fun b z => absurd z (noA b), e0.funs, e0.frf⟩,
    rfl, e0.bare, Un.kept kp, ⟨_, hns, fun i y v e1 e2 e3 => ?_⟩, fun y c e => (nc e).elim, e0.hok.fresh (Nat.le_refl _), fun y c e => (nc e).elim, fun q hq => absurd (show q ∈ ([] : List (Addr × Obj)) ++ [] from hq) (by simp), e0.hok.kept kp, rfl⟩
  · have hy : t.scope.names.lookup y = some .cell ∨ t.scope.names.lookup y = some .free := hy
    rcases hy with hy | hy
    · exact absurd rfl (L.glob _ (PySem.mem_of_lookup hy)).2.1
    · exact absurd rfl (L.glob _ (PySem.mem_of_lookup hy)).2.2
  · have z : false = true := z
    cases z
  · have e1 : ([] : List Str)[i]? = some y := e1
    simp at e1
end
/-- the j-th lambda's promise -/
def LamOk (P : Program) (w : World) (K : PySem.W.Frag) (mg : Str → Option Value) (base : Heap) (g : G) (k j : Nat) (fn : Store → R PV) : Prop :=
  LamG (g.lt j).scope ∧ (∀ (pm cv ctv : Value), bindArgs (PySem.W.kla_fn "<lambda>" (g.lt j).q (g.lt j).params (g.lt j).body (g.lt j).scope [] pm cv ctv) ⟨[], []⟩ = pure []) ∧
  ∀ (A : Around) (outer : List Env) (s : Shared) (H : Hp) (E : XK) (f c' : Addr), Room k (A.deeper (PySem.W.envX (g.lt j).q (g.lt j).scope s.heap.objs.size f (.ref c') [])) →
    Takes (lamX P w K mg base (g.lt j) f c' A outer s H E) (fun cls d _ H => E cls d H) →
    SE (lamX P w K mg base (g.lt j) f c' A outer s H E) g (fun cls d _ H => E cls d H) (g.lt j).body (fun _ S => fn S)
theorem lam_takes {P : Program} {w : World} {K : PySem.W.Frag} {mg : Str → Option Value} {base : Heap} {t : LamT} {A : Around} {outer : List Env} {s : Shared} {H : Hp} {E : XK} {f c' : Addr} : Takes (lamX P w K mg base t f c' A outer s H E) (fun cls d _ H => E cls d H) :=
  takes_of (X := lamX P w K mg base t f c' A outer s H E) rfl rfl rfl rfl
/-- x() for a local x that holds one of the lambdas lo .. -/
def eCallV (lam : Nat → Option (Store → R PV)) (i : Nat) : EF := fun ρ S => match ρ[i]? with
  | some (some (.loc l)) => match S[l]? with
    | some (.lam j) => match lam j with
      | some fn => fn S
      | none => .bad
    | _ => .bad
  | _ => .bad
section
variable {X : Cx} {g : G} {W : WX} {p1 p2 : Pos}
theorem se_callV {lam : Nat → Option (Store → R PV)} {k i : Nat} {x : Str} (hN : X.N[i]? = some x) (hv : Vis X.env.scope x) (hr' : Room k X.A) (tk : Takes X W)
    (hlam : ∀ j fn, lam j = some fn → ∃ k', k' + 1 = k ∧ LamOk X.prog X.w X.K X.mg X.base g k' j fn) (hd : (x == ("__debug__" : Str)) = false := by decide) (hcd : (x == ("__classdict__" : Str)) = false := by decide) :
    SE X g W (.Call (.Name x p1) [] [] p2) (eCallV lam i) := by
  refine ⟨fun pins s σ H Q I ⟨μ, ρ, S, re, rs, p⟩ => ?_⟩
  unfold eCallV at p
  split at p
  · rename_i l hl
    split at p
    · rename_i j hj
      split at p
      · rename_i fn hfn
        obtain ⟨xv, hσ, rx⟩ := re.at_ i _ hl
        cases rx with
        | loc hμ =>
          rename_i f
          obtain ⟨c', of0, oc0⟩ := rs.obj _ _ _ hμ hj
          obtain ⟨k', hk', L, hbind, hbody⟩ := hlam j fn hfn
          have hr : Room (k' + 1) X.A := hk' ▸ hr'
          refine wpAny_Call_Name_kw (thn ((pe_var (pos := p1) (i := i) hN hv hd hcd).run pins s σ H (fun v H1 => v = .ref f ∧ H1 = H) I ⟨.ref f, hσ, rfl, rfl⟩) fun u s1 ⟨v, H1, I1, r1, q1⟩ => ?_)
          obtain ⟨ev, eH⟩ := q1
          subst ev
          rw [eH] at I1
          obtain rfl : u = Value.ref f := r1
          obtain ⟨⟨pm, ctv, of1⟩, _, _⟩ := I1.hok f _ of0
          refine PySem.W.callWith_F0 ⟨_, _, _, _, of1⟩ ?_
          obtain ⟨⟨oc, vs, tt, hoc, hdc, hvc⟩, _, _⟩ := I1.hok c' _ oc0
          have rc : codeAny (model X.prog X.w) X.A (.call (.ref f) ⟨[], []⟩) (CR (L2.CX X.prog X.w) X.stack X.prog X.w H s1 Q (WE W σ)) s1 := by
            refine PySem.W.kla_callFunE hr.depth of1 rfl L.co L.gen rfl ⟨c', oc, vs, tt, rfl, hoc, hdc, hvc⟩ ?_
            rw [hbind]
            refine wpAny_pure (wpAny_newFunctionEnv (fun y hy => (L.glob y hy).2.1) (fun y hy => absurd hy (by simp)) (fun h₁ hns hsb => ⟨I1.nolimit.fresh _ hsb, ?_⟩) L.kind)
            show codeAny _ _ (.expr (g.lt j).body (PySem.W.envX (g.lt j).q (g.lt j).scope s1.heap.objs.size f (.ref c') [])) _ _
            have kp : ∀ b o, s1.heap.get? b = some o → h₁.get? b = some o := fun b o e => hsb.extBut b o (Nat.ne_of_lt (Heap.lt_size e)) (Heap.get?_push_of_some _ e)
            have J : Inv (lamX X.prog X.w X.K X.mg X.base (g.lt j) f c' X.A X.stack s1 H (WE W σ)) [] [] H { s1 with heap := h₁, toks := s1.toks + ([] : List (Str × Value)).length } :=
              lam_start0 L I1.env0 hr.hd hns kp
            have tk2 := lam_takes (P := X.prog) (w := X.w) (K := X.K) (mg := X.mg) (base := X.base) (t := g.lt j) (A := X.A) (outer := X.stack) (s := s1) (H := H) (E := WE W σ) (f := f) (c' := c')
            have hq := (hbody X.A X.stack s1 H (WE W σ) f c' (hr.deeper _) tk2).run [] _ _ H Q J ⟨μ, [], S, ⟨rfl, fun i v e => by simp at e⟩, rs, p⟩
            refine PySem.W.kla_codeExpr (wpAny_mono hq (fun v s' hq => ?_) fun e s' hq => hq)
            obtain ⟨w', H', J', rv, q⟩ := hq
            exact ⟨w', H', J'.os, J'.bare, J'.base, J'.hok, rv, q⟩
          refine wpAny_call (codeAny_mono rc fun r s' hq => ?_)
          cases r with
          | error e => exact passAt tk σ pins H s1 e s' I1 hq
          | ok fl =>
            cases fl with
            | ret u => exact I1.after hq
            | next => exact False.elim hq
            | brk => exact False.elim hq
            | cont => exact False.elim hq
      · exact p.elim
    · exact p.elim
  · exact p.elim
/-! ### try .. except x: -/
def sTry (f : SF) (cs : Nat → Option Bool) (h : SF) : SF := fun ρ S => match f ρ S with
  | .exc c ρ' S' => match cs c with
    | some true => h ρ' S'
    | some false => .exc c ρ' S'
    | none => .bad
  | r => r
/-- is the class number c caught by a clause for the class cv? -/
def Cat (g : G) (K : PySem.W.Frag) (cv : Value) (cs : Nat → Option Bool) : Prop := ∀ c b, cs c = some b → PySem.W.exmOne K (g.cv c) cv = some b
theorem ss_try {x : Str} {c : Value} {body suite : List Stmt} {b₀ : Stmt} {np pos pos' : Pos} {f fh : SF} {cs : Nat → Option Bool} (hs : X.stack = X.env :: X.outer) (hf : X.env.frame = some X.env.locals) (hc : Names X x c) (tk : Takes X W) (hcat : Cat g X.K c cs)
    (hb : ∀ (W' : WX) (pn : List (Addr × Obj)) (xe : Value → Shared → Prop), Takes (X.tr pn xe) W' → PassesOwn (model X.prog X.w) X.A X.env xe → SSs (X.tr pn xe) g W' body f)
    (hsu : ∀ (a : Addr) (oe : Obj) (cls : Value) (d : Option Addr) (pn : List (Addr × Obj)), Zc cls d oe → (∃ vs, oe.data = .fields vs) → SSs (X.suite a ((a, oe) :: pn)) g W (b₀ :: suite) fh) :
    SS X g W (.Try body [.ExceptHandler (some (.Name x np)) none (b₀ :: suite) pos'] [] [] pos) (sTry f cs fh) := by
  refine PSimp (ps_try_only (tb := fun W' => tSv g W' f) (ts := fun _ _ _ => tSv g W fh) (Wout := W) hs hf hc tk hb hsu) fun D σ H ⟨μ, ρ, S, re, rs, p⟩ => ⟨μ, ρ, S, re, rs, ?_⟩
  unfold sTry at p
  cases e : f ρ S with
  | ok fl S' =>
    rw [e] at p
    cases fl <;> exact p
  | bad => rw [e] at p; exact p.elim
  | exc n ρ' S' =>
    rw [e] at p
    simp only at p
    intro μ' σ' H' hp hl rs' re'
    cases hcs : cs n with
    | none => rw [hcs] at p; exact p.elim
    | some b =>
      rw [hcs] at p
      refine ⟨b, hcat n b hcs, fun hb' a ha => ?_, fun hb' => ?_⟩
      · subst hb'
        exact ⟨μ', ρ', S', re', rs', PostS.later (r := fh ρ' S') p hp hl⟩
      · subst hb'
        exact p μ' σ' H' hp hl rs' re'
end
end Ev


/-! Ev: defs. -/
namespace Ev
open PySem PySem.Spec PyProof.Rows L2
/-- a def's body (n slots) at its arguments -/
def runB (n : Nat) (f : SF) : List PV → Store → R PV := fun vs S => match f (vs.map some ++ List.replicate (n - vs.length) none) S with
  | .ok (.rt v) S' => .ok v S'
  | .ok (.nx _) S' => .ok .non S'
  | .ok _ _ => .bad
  | .exc c _ S' => .exc c S'
  | .bad => .bad
/-- a def of the text behind the top, its code object known -/
structure FunE (K : PySem.W.Frag) (x : Str) (st : Stmt) (f : Addr) (fd : FuncData) (cd : Value) : Prop where
  ex : ∃ (oc : Value) (od : Option Addr) (dV kV doc pm : Value) (an : Option Addr) (ct : Value) (osl : Array (Option Value)),
    fd = PySem.W.fnOf x x (defArgs st) (defBody st) (defScope st) dV kV doc pm an cd ct ∧ K.lookup f = some ⟨oc, od, .func fd, osl⟩ ∧ PySem.W.codeIn K cd x = true
section
variable {P : Program} {w : World} {K : PySem.W.Frag} {mg : Str → Option Value} {base : Heap} {g : G}
theorem re_start {μ : List Addr} {H : Hp} {xs : List PV} {vs : List V} (r : Rps K μ H xs vs) (N : List Str) : RE K μ H (xs.map some ++ List.replicate (N.length - xs.length) none) (L2.start N vs) := by
  unfold L2.start
  rw [r.length]
  refine ⟨by simp [r.length], fun i v e => ?_⟩
  by_cases hi : i < xs.length
  · rw [List.getElem?_append_left (by simpa using hi), List.getElem?_map] at e
    cases e1 : xs[i]? with
    | none => rw [e1] at e; cases e
    | some y =>
      rw [e1] at e
      cases e
      obtain ⟨x, hx, rx⟩ := r.get e1
      refine ⟨x, ?_, rx⟩
      rw [List.getElem?_append_left (by rw [List.length_map, ← r.length]; exact hi), List.getElem?_map, hx]
      rfl
  · rw [List.getElem?_append_right (by simpa using hi)] at e
    have := List.mem_of_getElem? e
    rw [List.mem_replicate] at this
    cases this.2
theorem okE {x : Str} {st : Stmt} {f : Addr} {fd : FuncData} {cd : Value} {N ps : List Str} {k i : Nat} {b : SF} {c : Oracle} (F : FunE K x st f fd cd) (gK : K = g.K) (S : FnScope N ps (defScope st)) (hci : ∀ vs S, c i vs S = runB N.length b vs S)
    (hbody : ∀ (A : Around) (outer : List Env) (s : Shared) (H : Hp) (E : XK), Room k (A.deeper (envOfC x (defScope st) s.heap.objs.size f cd)) →
      SSs (cxOf (L2.CX P w) P w K mg base N x (defScope st) f cd A outer s H E) g (fun cls d _ H => E cls d H) (defBody st) b) : FnOk P w K mg base (L2.CX P w) (k + 1) f fd ps (spO g c i ps.length) := by
  obtain ⟨oc, od, dV, kV, doc, pm, an, ct, osl, rfl, lk, hcd⟩ := F.ex
  refine fn_of lk hcd S (fun vs H Q E h => h.1) fun A outer s H vs Q E hr hsp => ?_
  refine ⟨_, hbody A outer s H E hr, ?_⟩
  obtain ⟨hl, μ, S0, xs, rs, rv, p⟩ := hsp
  subst gK
  refine ⟨μ, _, S0, re_start rv N, rs, ?_⟩
  rw [hci] at p
  unfold runB at p
  cases e : b (xs.map some ++ List.replicate (N.length - xs.length) none) S0 with
  | ok fl S' =>
    rw [e] at p
    cases fl with
    | nx ρ => exact fun μ' σ' H' hp hl rs' re' => p μ' V.non H' hp hl rs' .non
    | rt v => exact fun μ' x H' hp hl rs' r => p μ' x H' hp hl rs' r
    | bk ρ => exact p.elim
    | ct ρ => exact p.elim
  | exc n ρ S' =>
    rw [e] at p
    exact fun μ' σ' H' hp hl rs' re' => p μ' H' hp hl rs'
  | bad => rw [e] at p; exact p.elim
theorem FunE.of {x : Str} {st : Stmt} {fd : FuncData} {dvs : List V} {kws : List (Str × V)} (F : FunD K x x (defArgs st) (defBody st) (defScope st) dvs kws (He.fAd K (x, none)) fd) : FunE K x st (He.fAd K (x, none)) fd (.ref (He.codeOf K (x, none))) := by
  obtain ⟨oc, od, dV, kV, doc, pm, an, cdv, ct, osl, rfl, lk, hcd, _, _⟩ := F.ex
  obtain ⟨c, rfl⟩ := He.codeIn_ref hcd
  rw [He.codeOf_eq lk rfl]
  exact ⟨oc, od, dV, kV, doc, pm, an, ct, osl, rfl, lk, hcd⟩
/-- an error's class of the text, over ValueError -/
structure ExcT (K : PySem.W.Frag) (mg : Str → Option Value) (g : G) (x : Str) (k : Nat) (C : Addr) : Prop where
  cv : g.cv k = .ref C
  q : PySem.W.excIn K C [.type "ValueError", .type "Exception", .type "BaseException", .type "object"] "ValueError.__new__" = true
  gC : mg x = some (.ref C)
  kC : PySem.W.keepIn K (.ref C) = true
  eC : PySem.W.subIn K (.ref C) (.type "BaseException") = some true
  tC : PySem.W.typeIn K (.ref C) = some (.type "type")
/-- what is bad is promised -/
theorem ok_bad {f : Addr} {fd : FuncData} {ps : List Str} {k i : Nat} {c : Oracle} (h : ∀ vs S, c i vs S = .bad) : FnOk P w K mg base (L2.CX P w) k f fd ps (spO g c i ps.length) :=
  ⟨fun vs H Q E h => h.1, fun A outer s H args us vs Q E hr e0 hb r ⟨_, μ, S, xs, _, _, p⟩ => by
    rw [h] at p
    exact p.elim⟩
/-! ### the law: what stands ahead of the last return, and its answer, at the empty store -/
section
variable {X : Cx} {W : WX} {pos : Pos} {a : Expr} {fa : EF} {st : Stmt} {sts : List Stmt} {f f2 : SF}
def tFin (g : G) (W : WX) (f : SF) (fa : EF) : TS := fun D σ H => tSv g W f { D with nx := fun σ' H' => tEv g W fa σ' H' D.rt } σ H
theorem ss_fin (ha : SE X g W a fa) : PSs X [.Return (some a) pos] (tFin g W sNil fa) :=
  PSsimp (pss_one (ps_ret ha)) fun D σ H ⟨μ, ρ, S, re, rs, p⟩ => PostS.nx p rs re
theorem ss_finC (h1 : SS X g W st f) (h2 : PSs X sts (tFin g W f2 fa)) : PSs X (st :: sts) (tFin g W (sSeq f f2) fa) :=
  PSsimp (pss_cons h1 h2) fun D σ H ⟨μ, ρ, S, re, rs, p⟩ => by
    refine ⟨μ, ρ, S, re, rs, ?_⟩
    unfold sSeq at p
    cases e : f ρ S with
    | ok fl S' =>
      rw [e] at p
      cases fl with
      | nx ρ' => exact fun μ' σ' H' hp hl rs' re' => ⟨μ', ρ', S', re', rs', PostS.later (r := f2 ρ' S') p hp hl⟩
      | rt v => exact p
      | bk ρ => exact p
      | ct ρ => exact p
    | exc c ρ' S' => rw [e] at p; exact p
    | bad => rw [e] at p; exact p
end
def spLaw (g : G) (n : Nat) (b : SF) : Sp := fun vs H Q _ => vs.length = 1 ∧ (∃ μ S xs, RS g μ S H ∧ Rps g.K μ H xs vs ∧ ∃ ρ' S', b (xs.map some ++ List.replicate (n - xs.length) none) S = .ok (.nx ρ') S') ∧ ∀ H', Q (.bl true) H'
theorem okLaw {x p : Str} {st : Stmt} {f : Addr} {fd : FuncData} {cd : Value} {N : List Str} {k : Nat} {b : SF} {fa : EF} (F : FunE K x st f fd cd) (gK : K = g.K) (S : FnScope N [p] (defScope st)) (hfa : ∀ ρ, ∃ S', fa ρ [] = .ok (.bl true) S')
    (hbody : ∀ (A : Around) (outer : List Env) (s : Shared) (H : Hp) (E : XK), Room k (A.deeper (envOfC x (defScope st) s.heap.objs.size f cd)) →
      PSs (cxOf (L2.CX P w) P w K mg base N x (defScope st) f cd A outer s H E) (defBody st) (tFin g (fun cls d _ H => E cls d H) b fa)) : FnOk P w K mg base (L2.CX P w) (k + 1) f fd [p] (spLaw g N.length b) := by
  obtain ⟨oc, od, dV, kV, doc, pm, an, ct, osl, rfl, lk, hcd⟩ := F.ex
  refine fn_of lk hcd S (fun vs H Q E h => h.1) fun A outer s H vs Q E hr hsp => ?_
  refine ⟨_, hbody A outer s H E hr, ?_⟩
  obtain ⟨hl, ⟨μ, S0, xs, rs, rv, ρ', S', eb⟩, hQ⟩ := hsp
  subst gK
  refine ⟨μ, _, S0, re_start rv N, rs, ?_⟩
  rw [eb]
  intro μ' σ' H' hp hle rs' re'
  obtain ⟨S2, e2⟩ := hfa (List.replicate σ'.length none)
  refine ⟨[], List.replicate σ'.length none, [], ⟨by simp, fun i v e => ?_⟩, ⟨rfl, fun l l' a o o' e1 => by simp at e1, fun l a o e1 => by simp at e1, rs'.tabs⟩, ?_⟩
  · have := List.mem_of_getElem? e
    rw [List.mem_replicate] at this
    cases this.2
  · rw [e2]
    intro μ2 x2 H2 _ _ _ r2
    cases r2
    exact hQ H2
end
end Ev


/-! Ev: the evaluators reckoned with: what is wished behind them. -/
namespace Ev
open PySem PySem.Spec PyProof.Rows L2
def WE {α : Type} (r : R α) (Q : α → Store → Prop) : Prop := ∃ a S', r = .ok a S' ∧ Q a S'
def WS (r : RO) (Q : Fl → Store → Prop) : Prop := ∃ f S', r = .ok f S' ∧ Q f S'
def WO (o : Option (PV × Store)) (Q : PV → Store → Prop) : Prop := ∃ z S', o = some (z, S') ∧ Q z S'
section
variable {α β : Type} {Q : PV → Store → Prop} {QL : List PV → Store → Prop} {QB : Bool → Store → Prop} {QI : Option Int → Store → Prop} {QS : Fl → Store → Prop} {ρ ρ' : Env'} {S S' : Store} {a b fo fe : EF} {as r : AF} {t ta tb : BF} {op o1 o2 : BOp} {v w : PV} {i n : Nat}
theorem WE.imp {r : R α} {Q Q' : α → Store → Prop} (h : WE r Q) (k : ∀ a S, Q a S → Q' a S) : WE r Q' := let ⟨a, S', e, q⟩ := h; ⟨a, S', e, k _ _ q⟩
theorem WS.imp {r : RO} {Q Q' : Fl → Store → Prop} (h : WS r Q) (k : ∀ a S, Q a S → Q' a S) : WS r Q' := let ⟨a, S', e, q⟩ := h; ⟨a, S', e, k _ _ q⟩
theorem WE.mk {r : R α} {Q : α → Store → Prop} {a : α} {S' : Store} (e : r = .ok a S') (q : Q a S') : WE r Q := ⟨a, S', e, q⟩
theorem WO.mk {o : Option (PV × Store)} {z : PV} (e : o = some (z, S')) (q : Q z S') : WO o Q := ⟨z, S', e, q⟩
theorem wBind {x : R α} {k : α → Store → R β} {Q : β → Store → Prop} (h : WE x fun v S1 => WE (k v S1) Q) : WE (x.bind k) Q := by
  obtain ⟨v, S1, e, q⟩ := h
  rw [e]; exact q
theorem wOfO {o : Option (PV × Store)} (h : WO o Q) : WE (R.ofO o) Q := by
  obtain ⟨v, S1, e, q⟩ := h
  rw [e]; exact ⟨v, S1, rfl, q⟩
theorem wVar (h : ρ[i]? = some (some v)) (q : Q v S) : WE (eVar i ρ S) Q := by
  unfold eVar; rw [h]; exact ⟨v, S, rfl, q⟩
theorem wC (q : Q v S) : WE (eC v ρ S) Q := ⟨v, S, rfl, q⟩
theorem wBin (h : WE (a ρ S) fun v S1 => WE (b ρ S1) fun w S2 => WO (op v w S2) Q) : WE (eBin op a b ρ S) Q := wBind (h.imp fun v S1 h => wBind (h.imp fun w S2 h => wOfO h))
theorem wUn {f : PV → Store → Option (PV × Store)} (h : WE (a ρ S) fun v S1 => WO (f v S1) Q) : WE (eUn f a ρ S) Q := wBind (h.imp fun v S1 h => wOfO h)
theorem wNil (q : QL [] S) : WE (eNil ρ S) QL := ⟨[], S, rfl, q⟩
theorem wCons (h : WE (a ρ S) fun v S1 => WE (r ρ S1) fun vs S2 => QL (v :: vs) S2) : WE (eCons a r ρ S) QL := wBind (h.imp fun v S1 h => wBind (h.imp fun vs S2 h => ⟨_, _, rfl, h⟩))
theorem wTup (h : WE (as ρ S) fun vs S1 => vs.length ≤ LINE ∧ Q (.tup vs) S1) : WE (eTup as ρ S) Q := wBind (h.imp fun v S1 h => by rw [if_pos h.1]; exact ⟨_, _, rfl, h.2⟩)
theorem wLst (h : WE (as ρ S) fun vs S1 => vs.length ≤ LINE ∧ Q (.loc S1.length) (S1 ++ [.lst vs])) : WE (eLst as ρ S) Q := wBind (h.imp fun v S1 h => by rw [if_pos h.1]; exact ⟨_, _, rfl, h.2⟩)
theorem wCl {f : AOp} (h : WE (as ρ S) fun vs S1 => WO (f vs S1) Q) : WE (eCl f as ρ S) Q := wBind (h.imp fun v S1 h => wOfO h)
theorem wIf (h : WE (t ρ S) fun c S1 => if c = true then WE (a ρ S1) Q else WE (b ρ S1) Q) : WE (eIf t a b ρ S) Q := wBind (h.imp fun c S1 h => by
  cases c with
  | true => exact h
  | false => exact h)
theorem wIs {cs : List String} {t : String} (h : WE (a ρ S) fun v S1 => ∃ t, tyP S1 v = some t ∧ Q (.bl (isB t cs)) S1) : WE (eIs cs a ρ S) Q := wBind (h.imp fun v S1 ⟨t, e, q⟩ => by rw [e]; exact ⟨_, _, rfl, q⟩)
theorem wCall {c : Oracle} {dv : List PV} (h : WE (as ρ S) fun vs S1 => vs.length + dv.length = n ∧ WE (c i (vs ++ dv) S1) Q) : WE (eCall c i n dv as ρ S) Q := wBind (h.imp fun v S1 h => by rw [if_pos h.1]; exact h.2)
theorem wDn (q : Q (.loc S.length) (S ++ [.dic []])) : WE (eDn ρ S) Q := ⟨_, _, rfl, q⟩
theorem wNot (h : WE (a ρ S) fun v S1 => ∃ c, truP v S1 = some c ∧ Q (.bl (!c)) S1) : WE (eNot a ρ S) Q := wBind (h.imp fun v S1 ⟨c, e, q⟩ => by rw [e]; exact ⟨_, _, rfl, q⟩)
theorem wAppd (h : WE (fo ρ S) fun v S1 => tyP S1 v = some "list" ∧ WE (as ρ S1) fun ws S2 => ∃ l w xs, v = .loc l ∧ ws = [w] ∧ S2[l]? = some (.lst xs) ∧ xs.length < LINE ∧ Q .non (S2.set l (.lst (xs ++ [w])))) : WE (eAppd fo as ρ S) Q :=
  wBind (h.imp fun v S1 ⟨e, h⟩ => by
    rw [e]
    exact wBind (h.imp fun ws S2 ⟨l, w, xs, e1, e2, e3, e4, q⟩ => by
      subst e1 e2
      simp only [e3, if_pos e4]
      exact ⟨_, _, rfl, q⟩))
theorem wM1 {f : BOp} (h : WE (fo ρ S) fun v S1 => ∃ s, v = .str s ∧ WE (fe ρ S1) fun w S2 => WO (f v w S2) Q) : WE (eM1 f fo fe ρ S) Q := wBind (h.imp fun v S1 ⟨s, e, h⟩ => by
  subst e
  exact wBind (h.imp fun w S2 h => wOfO h))
theorem oNo_ (q : QI none S) : WE (oNo ρ S) QI := ⟨_, _, rfl, q⟩
theorem oSo_ (h : WE (a ρ S) fun v S1 => ∃ i, v = .int i ∧ QI (some i) S1) : WE (oSo a ρ S) QI := wBind (h.imp fun v S1 ⟨i, e, q⟩ => by subst e; exact ⟨_, _, rfl, q⟩)
theorem wSl {lo hi : EO} (h : WE (a ρ S) fun v S1 => WE (lo ρ S1) fun l S2 => WE (hi ρ S2) fun h S3 => WO (slP v l h S3) Q) : WE (eSl a lo hi ρ S) Q := wBind (h.imp fun v S1 h => wBind (h.imp fun l S2 h => wBind (h.imp fun k S3 h => wOfO h)))
/-! tests -/
theorem wbCmp (h : WE (a ρ S) fun v S1 => WE (b ρ S1) fun w S2 => ∃ c S3, op v w S2 = some (.bl c, S3) ∧ QB c S3) : WE (bCmp op a b ρ S) QB := wBind (h.imp fun v S1 h => wBind (h.imp fun w S2 ⟨c, S3, e, q⟩ => by rw [e]; exact ⟨_, _, rfl, q⟩))
theorem wbTru (h : WE (a ρ S) fun v S1 => ∃ c, truP v S1 = some c ∧ QB c S1) : WE (bTru a ρ S) QB := wBind (h.imp fun v S1 ⟨c, e, q⟩ => by rw [e]; exact ⟨_, _, rfl, q⟩)
theorem wbNot (h : WE (t ρ S) fun c S1 => QB (!c) S1) : WE (bNot t ρ S) QB := wBind (h.imp fun c S1 h => ⟨_, _, rfl, h⟩)
theorem wbAnd (h : WE (ta ρ S) fun c S1 => if c = true then WE (tb ρ S1) QB else QB false S1) : WE (bAnd ta tb ρ S) QB := wBind (h.imp fun c S1 h => by
  cases c with
  | true => exact h
  | false => exact ⟨_, _, rfl, h⟩)
theorem wbOr (h : WE (ta ρ S) fun c S1 => if c = true then QB true S1 else WE (tb ρ S1) QB) : WE (bOr ta tb ρ S) QB := wBind (h.imp fun c S1 h => by
  cases c with
  | true => exact ⟨_, _, rfl, h⟩
  | false => exact h)
theorem wB (h : WE (t ρ S) fun c S1 => Q (.bl c) S1) : WE (eB t ρ S) Q := wBind (h.imp fun c S1 h => ⟨_, _, rfl, h⟩)
/-! statements -/
theorem wbindE {x : R α} {k : α → Store → RO} (h : WE x fun v S1 => WS (k v S1) QS) : WS (bindE x ρ k) QS := by
  obtain ⟨v, S1, e, q⟩ := h
  rw [e]; exact q
theorem wsNil (q : QS (.nx ρ) S) : WS (sNil ρ S) QS := ⟨_, _, rfl, q⟩
def nxt (f : SF) (QS : Fl → Store → Prop) (fl : Fl) (S1 : Store) : Prop := match fl with
  | .nx ρ' => WS (f ρ' S1) QS
  | fl => QS fl S1
theorem wsSeq {f f2 : SF} (h : WS (f ρ S) (nxt f2 QS)) : WS (sSeq f f2 ρ S) QS := by
  obtain ⟨fl, S1, e, q⟩ := h
  unfold sSeq
  rw [e]
  cases fl with
  | nx ρ' => exact q
  | rt v => exact ⟨_, _, rfl, q⟩
  | bk ρ => exact ⟨_, _, rfl, q⟩
  | ct ρ => exact ⟨_, _, rfl, q⟩
theorem wsRet (h : WE (a ρ S) fun v S1 => QS (.rt v) S1) : WS (sRet a ρ S) QS := wbindE (h.imp fun v S1 h => ⟨_, _, rfl, h⟩)
theorem wsExpr (h : WE (a ρ S) fun v S1 => QS (.nx ρ) S1) : WS (sExpr a ρ S) QS := wbindE (h.imp fun v S1 h => ⟨_, _, rfl, h⟩)
theorem wsIf {f f2 : SF} (h : WE (t ρ S) fun c S1 => if c = true then WS (f ρ S1) QS else WS (f2 ρ S1) QS) : WS (sIf t f f2 ρ S) QS := wbindE (h.imp fun c S1 h => by
  cases c with
  | true => exact h
  | false => exact h)
theorem wsAsg {tg : Tg} (h : WE (a ρ S) fun v S1 => ∃ ρ' S2, tg v ρ S1 = some (ρ', S2) ∧ QS (.nx ρ') S2) : WS (sAsg a tg ρ S) QS := wbindE (h.imp fun v S1 ⟨ρ', S2, e, q⟩ => by rw [e]; exact ⟨_, _, rfl, q⟩)
theorem wsSet (h : WE (a ρ S) fun v S1 => QS (.nx (ρ.set i (some v))) S1) : WS (sAsg a (tgN i) ρ S) QS := wsAsg (h.imp fun v S1 q => ⟨_, _, rfl, q⟩)
theorem wsPar {j : Nat} (h : WE (as ρ S) fun vs S1 => ∃ v w, vs = [v, w] ∧ QS (.nx ((ρ.set i (some v)).set j (some w))) S1) : WS (sPar i j as ρ S) QS := wbindE (h.imp fun vs S1 ⟨v, w, e, q⟩ => by subst e; exact ⟨_, _, rfl, q⟩)
theorem wsAug (e : ρ[i]? = some (some v)) (h : WE (a ρ S) fun w S1 => WO (op v w S1) fun z S2 => QS (.nx (ρ.set i (some z))) S2) : WS (sAug i op a ρ S) QS := by
  unfold sAug
  rw [e]
  exact wbindE (h.imp fun w S1 ⟨z, S2, e, q⟩ => by rw [e]; exact ⟨_, _, rfl, q⟩)
/-! defs -/
def fin (Q : PV → Store → Prop) (fl : Fl) (S1 : Store) : Prop := match fl with
  | .rt v => Q v S1
  | .nx _ => Q .non S1
  | _ => False
theorem wRun {f : SF} {vs : List PV} (h : WS (f (vs.map some ++ List.replicate (n - vs.length) none) S) (fin Q)) : WE (runB n f vs S) Q := by
  obtain ⟨fl, S1, e, q⟩ := h
  unfold runB
  rw [e]
  cases fl with
  | nx ρ' => exact ⟨_, _, rfl, q⟩
  | rt v => exact ⟨_, _, rfl, q⟩
  | bk ρ => exact q.elim
  | ct ρ => exact q.elim
/-! loops -/
theorem wsFor {it : IF} {tg : Tg} {f : SF} (h : WE (it ρ S) fun src S1 => WS (forL src tg f (fuelOf src S1) 0 ρ S1) QS) : WS (sFor it tg f ρ S) QS := wbindE h
theorem wforEnd {src : Src} {tg : Tg} {f : SF} (e : nth src i S = some none) (q : QS (.nx ρ) S) : WS (forL src tg f (n + 1) i ρ S) QS := by
  unfold forL
  rw [e]
  exact ⟨_, _, rfl, q⟩
theorem wforGo {src : Src} {tg : Tg} {f : SF} {ρ1 : Env'} {S1 : Store} (e : nth src i S = some (some v)) (et : tg v ρ S = some (ρ1, S1))
    (h : WS (f ρ1 S1) fun fl S2 => match fl with
      | .nx ρ2 => WS (forL src tg f n (i + 1) ρ2 S2) QS
      | .ct ρ2 => WS (forL src tg f n (i + 1) ρ2 S2) QS
      | .bk ρ2 => QS (.nx ρ2) S2
      | .rt v => QS (.rt v) S2) : WS (forL src tg f (n + 1) i ρ S) QS := by
  obtain ⟨fl, S2, e2, q⟩ := h
  unfold forL
  simp only [e, et, e2]
  cases fl with
  | nx ρ2 => exact q
  | rt v => exact ⟨_, _, rfl, q⟩
  | bk ρ2 => exact ⟨_, _, rfl, q⟩
  | ct ρ2 => exact q
theorem wwhile {f : SF} (h : WE (t ρ S) fun c S1 => if c = true then WS (f ρ S1) fun fl S2 => (match fl with
      | .nx ρ2 => WS (whL t f n ρ2 S2) QS
      | .ct ρ2 => WS (whL t f n ρ2 S2) QS
      | .bk ρ2 => QS (.nx ρ2) S2
      | .rt v => QS (.rt v) S2) else QS (.nx ρ) S1) : WS (whL t f (n + 1) ρ S) QS := by
  unfold whL
  refine wbindE (h.imp fun c S1 h => ?_)
  cases c with
  | false => exact ⟨_, _, rfl, h⟩
  | true =>
    obtain ⟨fl, S2, e2, q⟩ := h
    simp only [if_true, e2]
    cases fl with
    | nx ρ2 => exact q
    | rt v => exact ⟨_, _, rfl, q⟩
    | bk ρ2 => exact ⟨_, _, rfl, q⟩
    | ct ρ2 => exact q
end
end Ev


/-! Ev: comprehensions, sources, and/or reckoned with. -/
namespace Ev
open PySem PySem.Spec PyProof.Rows L2
section
variable {α : Type} {Q : PV → Store → Prop} {QL : List PV → Store → Prop} {QB : Bool → Store → Prop} {QI : Src → Store → Prop} {QS : Fl → Store → Prop} {ρ ρ' ρ1 : Env'} {S S' S1 : Store} {a b fo fe te tk tv : EF} {as r : AF} {tt : BF} {v w : PV} {i n d : Nat} {src : Src} {t : Tg} {it : IF} {vs : List Nat}
theorem ifT {c : Bool} {A B : Prop} (h : c = true) (a : A) : if c = true then A else B := by rw [if_pos h]; exact a
theorem ifF {c : Bool} {A B : Prop} (h : c = false) (b : B) : if c = true then A else B := by rw [if_neg (by rw [h]; exact Bool.false_ne_true)]; exact b
theorem wChn {o1 o2 : BOp} {c : EF} (h : WE (a ρ S) fun v S1 => WE (b ρ S1) fun w S2 => ∃ k S3, o1 v w S2 = some (.bl k, S3) ∧ if k = true then WE (c ρ S3) (fun z S4 => ∃ k2 S5, o2 w z S4 = some (.bl k2, S5) ∧ QB k2 S5) else QB false S3) : WE (bChn o1 o2 a b c ρ S) QB := wBind (h.imp fun v S1 h => wBind (h.imp fun w S2 ⟨k, S3, e, q⟩ => by
  simp only [e]
  cases k with
  | false => exact ⟨_, _, rfl, q⟩
  | true =>
    refine wBind (WE.imp (show WE (c ρ S3) _ from q) fun z S4 ⟨k2, S5, e2, q2⟩ => ?_)
    simp only [e2]
    exact ⟨_, _, rfl, q2⟩))
theorem wOf (h : WE (a ρ S) fun v S1 => ∃ s, srcP v S1 = some s ∧ QI s S1) : WE (iOf a ρ S) QI := wBind (h.imp fun v S1 ⟨s, e, q⟩ => by rw [e]; exact ⟨_, _, rfl, q⟩)
theorem srcL {l : Nat} {xs : List PV} (h : S[l]? = some (.lst xs)) : srcP (.loc l) S = some (.ref l) := by
  unfold srcP listAt
  simp only [h]
theorem srcR {l : Nat} {xs : List PV} (h : S[l]? = some (.rol xs)) : srcP (.loc l) S = some (.ref l) := by
  unfold srcP listAt
  simp only [h]
theorem nthL {l : Nat} {xs : List PV} (h : S[l]? = some (.lst xs)) : nth (.ref l) i S = some xs[i]? := by
  unfold nth listAt
  simp only [h]
theorem nthR {l : Nat} {xs : List PV} (h : S[l]? = some (.rol xs)) : nth (.ref l) i S = some xs[i]? := by
  unfold nth listAt
  simp only [h]
theorem fuelL {l : Nat} {xs : List PV} (h : S[l]? = some (.lst xs)) : fuelOf (.ref l) S = xs.length + 65537 := by
  unfold fuelOf listAt
  simp only [h]
  rfl
theorem fuelR {l : Nat} {xs : List PV} (h : S[l]? = some (.rol xs)) : fuelOf (.ref l) S = xs.length + 65537 := by
  unfold fuelOf listAt
  simp only [h]
  rfl
/-! list comprehensions -/
theorem wLc (h : WE (it ρ S) fun src S1 => WE (lcL src t tt te S1.length (wipeP ρ vs) (fuelOf src S1) 0 (S1 ++ [.lst []])) Q) : WE (eLc it t tt te vs ρ S) Q := wBind h
theorem wlcEnd (e : nth src i S = some none) (q : Q (.loc d) S) : WE (lcL src t tt te d ρ (n + 1) i S) Q := by
  unfold lcL
  rw [e]
  exact ⟨_, _, rfl, q⟩
theorem wlcGo (e : nth src i S = some (some v)) (et : t v ρ S = some (ρ1, S1)) (h : WE (tt ρ1 S1) fun c S2 => if c = true then WE (te ρ1 S2) fun y S3 => ∃ acc, S3[d]? = some (.lst acc) ∧ acc.length < LINE ∧ WE (lcL src t tt te d ρ n (i + 1) (S3.set d (.lst (acc ++ [y])))) Q else WE (lcL src t tt te d ρ n (i + 1) S2) Q) : WE (lcL src t tt te d ρ (n + 1) i S) Q := by
  obtain ⟨c, S2, e2, q⟩ := h
  unfold lcL
  simp only [e, et, e2]
  cases c with
  | false => exact q
  | true =>
    obtain ⟨y, S3, e3, acc, e4, hl, q⟩ := q
    simp only [e3, e4, if_pos hl]
    exact q
/-- quiet ones: the list laid, each part by itself -/
theorem lc_loop {S1 : Store} {xs : List PV} {k : Nat} {p : PV → Bool} {f : PV → PV} (hn : ∀ i acc, nth src i (S1 ++ [.lst acc]) = some xs[i]?) (ht : ∀ x ∈ xs, ∀ S', tt (ρ.set k (some x)) S' = .ok (p x) S') (he : ∀ x ∈ xs, ∀ S', te (ρ.set k (some x)) S' = .ok (f x) S') (hx : xs.length ≤ 1000000) :
    ∀ (r pre acc : List PV) (n : Nat), xs = pre ++ r → r.length < n → acc.length ≤ pre.length → Q (.loc S1.length) (S1 ++ [.lst (acc ++ (r.filter p).map f)]) → WE (lcL src (tgN k) tt te S1.length ρ n pre.length (S1 ++ [.lst acc])) Q
  | r, pre, acc, 0, _, h, _, _ => absurd h (Nat.not_lt_zero _)
  | [], pre, acc, n + 1, e, _, _, q => by
    refine wlcEnd ?_ (by simpa using q)
    rw [hn, e, List.append_nil, List.getElem?_eq_none (Nat.le_refl _)]
  | x :: r, pre, acc, n + 1, e, hl, ha, q => by
    have hm : x ∈ xs := by rw [e]; simp
    have hl : r.length + 1 < n + 1 := hl
    have hp : pre.length + (r.length + 1) ≤ 1000000 := by rw [e, List.length_append] at hx; exact hx
    refine wlcGo (v := x) (ρ1 := ρ.set k (some x)) (S1 := S1 ++ [.lst acc]) (by rw [hn, e]; simp) rfl ?_
    rw [ht x hm]
    refine ⟨_, _, rfl, ?_⟩
    have go : ∀ acc', acc'.length ≤ (pre ++ [x]).length → Q (.loc S1.length) (S1 ++ [.lst (acc' ++ (r.filter p).map f)]) → WE (lcL src (tgN k) tt te S1.length ρ n (pre.length + 1) (S1 ++ [.lst acc'])) Q := fun acc' h1 h2 => by
      have := lc_loop hn ht he hx r (pre ++ [x]) acc' n (by rw [e]; simp) (by omega) h1 h2
      rw [List.length_append] at this
      exact this
    cases hpx : p x with
    | false =>
      refine ifF rfl ?_
      refine go acc (by rw [List.length_append]; omega) ?_
      rw [List.filter_cons, hpx] at q
      exact q
    | true =>
      refine ifT rfl ?_
      rw [he x hm]
      refine ⟨_, _, rfl, acc, ?_, ?_, ?_⟩
      · rw [List.getElem?_append_right (Nat.le_refl _), Nat.sub_self]; rfl
      · show acc.length < 16777216; omega
      · rw [List.set_append_right _ _ (Nat.le_refl _), Nat.sub_self]
        refine go (acc ++ [f x]) (by rw [List.length_append, List.length_append]; simp; omega) ?_
        rw [List.filter_cons, hpx] at q
        simpa using q
/-- over a list of the store -/
theorem wLcL {k : Nat} {xs : List PV} {p : PV → Bool} {f : PV → PV} (h : WE (a ρ S) fun v S1 => ∃ l, v = .loc l ∧ S1[l]? = some (.lst xs) ∧ xs.length ≤ 1000000 ∧ (∀ x ∈ xs, ∀ S', tt ((wipeP ρ vs).set k (some x)) S' = .ok (p x) S') ∧ (∀ x ∈ xs, ∀ S', te ((wipeP ρ vs).set k (some x)) S' = .ok (f x) S') ∧ Q (.loc S1.length) (S1 ++ [.lst ((xs.filter p).map f)])) : WE (eLc (iOf a) (tgN k) tt te vs ρ S) Q := by
  refine wLc (wOf (h.imp fun v S1 ⟨l, e, h1, hx, ht, he, q⟩ => ?_))
  subst e
  refine ⟨_, srcL h1, ?_⟩
  have hl : l < S1.length := (List.getElem?_eq_some_iff.mp h1).1
  refine lc_loop (xs := xs) (fun i acc => nthL (by rw [List.getElem?_append_left hl]; exact h1)) ht he hx xs [] [] _ rfl ?_ (Nat.le_refl _) q
  rw [fuelL h1]
  omega
/-! dict comprehensions -/
theorem wDc (h : WE (it ρ S) fun src S1 => WE (dcL src t tt tk tv S1.length (wipeP ρ vs) (fuelOf src S1) 0 (S1 ++ [.dic []])) Q) : WE (eDc it t tt tk tv vs ρ S) Q := wBind h
theorem wdcEnd (e : nth src i S = some none) (q : Q (.loc d) S) : WE (dcL src t tt tk tv d ρ (n + 1) i S) Q := by
  unfold dcL
  rw [e]
  exact ⟨_, _, rfl, q⟩
theorem wdcGo (e : nth src i S = some (some v)) (et : t v ρ S = some (ρ1, S1)) (h : WE (tt ρ1 S1) fun c S2 => if c = true then WE (tk ρ1 S2) fun y S3 => WE (tv ρ1 S3) fun z S4 => ∃ kvs, S4[d]? = some (.dic kvs) ∧ keyP y = true ∧ kvs.length < LINE ∧ WE (dcL src t tt tk tv d ρ n (i + 1) (S4.set d (.dic (putP kvs y z)))) Q else WE (dcL src t tt tk tv d ρ n (i + 1) S2) Q) : WE (dcL src t tt tk tv d ρ (n + 1) i S) Q := by
  obtain ⟨c, S2, e2, q⟩ := h
  unfold dcL
  simp only [e, et, e2]
  cases c with
  | false => exact q
  | true =>
    obtain ⟨y, S3, e3, z, S4, e5, kvs, e4, hk, hl, q⟩ := q
    simp only [e3, e5, e4, if_pos (And.intro hk hl)]
    exact q
theorem putP_len (kvs : List (PV × PV)) (k v : PV) : (putP kvs k v).length ≤ kvs.length + 1 := by
  unfold putP
  split
  · rw [List.length_map]; omega
  · rw [List.length_append]; exact Nat.le_refl _
/-- quiet ones -/
theorem dc_loop {S1 : Store} {xs : List PV} {k : Nat} {p : PV → Bool} {f g : PV → PV} (hn : ∀ i acc, nth src i (S1 ++ [.dic acc]) = some xs[i]?) (ht : ∀ x ∈ xs, ∀ S', tt (ρ.set k (some x)) S' = .ok (p x) S') (hk : ∀ x ∈ xs, ∀ S', tk (ρ.set k (some x)) S' = .ok (f x) S' ∧ keyP (f x) = true) (hv : ∀ x ∈ xs, ∀ S', tv (ρ.set k (some x)) S' = .ok (g x) S') (hx : xs.length ≤ 1000000) :
    ∀ (r pre : List PV) (acc : List (PV × PV)) (n : Nat), xs = pre ++ r → r.length < n → acc.length ≤ pre.length → Q (.loc S1.length) (S1 ++ [.dic ((r.filter p).foldl (fun acc x => putP acc (f x) (g x)) acc)]) → WE (dcL src (tgN k) tt tk tv S1.length ρ n pre.length (S1 ++ [.dic acc])) Q
  | r, pre, acc, 0, _, h, _, _ => absurd h (Nat.not_lt_zero _)
  | [], pre, acc, n + 1, e, _, _, q => by
    refine wdcEnd ?_ (by simpa using q)
    rw [hn, e, List.append_nil, List.getElem?_eq_none (Nat.le_refl _)]
  | x :: r, pre, acc, n + 1, e, hl, ha, q => by
    have hm : x ∈ xs := by rw [e]; simp
    have hl : r.length + 1 < n + 1 := hl
    have hp : pre.length + (r.length + 1) ≤ 1000000 := by rw [e, List.length_append] at hx; exact hx
    refine wdcGo (v := x) (ρ1 := ρ.set k (some x)) (S1 := S1 ++ [.dic acc]) (by rw [hn, e]; simp) rfl ?_
    rw [ht x hm]
    refine ⟨_, _, rfl, ?_⟩
    have go : ∀ acc', acc'.length ≤ (pre ++ [x]).length → Q (.loc S1.length) (S1 ++ [.dic ((r.filter p).foldl (fun acc x => putP acc (f x) (g x)) acc')]) → WE (dcL src (tgN k) tt tk tv S1.length ρ n (pre.length + 1) (S1 ++ [.dic acc'])) Q := fun acc' h1 h2 => by
      have := dc_loop hn ht hk hv hx r (pre ++ [x]) acc' n (by rw [e]; simp) (by omega) h1 h2
      rw [List.length_append] at this
      exact this
    cases hpx : p x with
    | false =>
      refine ifF rfl ?_
      refine go acc (by rw [List.length_append]; omega) ?_
      rw [List.filter_cons, hpx] at q
      exact q
    | true =>
      refine ifT rfl ?_
      rw [(hk x hm _).1]
      refine ⟨_, _, rfl, ?_⟩
      refine WE.mk (hv x hm _) ?_
      refine ⟨acc, ?_, (hk x hm []).2, ?_, ?_⟩
      · rw [List.getElem?_append_right (Nat.le_refl _), Nat.sub_self]; rfl
      · show acc.length < 16777216; omega
      · rw [List.set_append_right _ _ (Nat.le_refl _), Nat.sub_self]
        refine go (putP acc (f x) (g x)) (by rw [List.length_append]; exact Nat.le_trans (putP_len ..) (by simp; omega)) ?_
        rw [List.filter_cons, hpx] at q
        exact q
/-- over a tuple -/
theorem wDcT {k : Nat} {xs : List PV} {p : PV → Bool} {f g : PV → PV} (h : WE (a ρ S) fun v S1 => v = .tup xs ∧ xs.length ≤ 1000000 ∧ (∀ x ∈ xs, ∀ S', tt ((wipeP ρ vs).set k (some x)) S' = .ok (p x) S') ∧ (∀ x ∈ xs, ∀ S', tk ((wipeP ρ vs).set k (some x)) S' = .ok (f x) S' ∧ keyP (f x) = true) ∧ (∀ x ∈ xs, ∀ S', tv ((wipeP ρ vs).set k (some x)) S' = .ok (g x) S') ∧ Q (.loc S1.length) (S1 ++ [.dic ((xs.filter p).foldl (fun acc x => putP acc (f x) (g x)) [])])) : WE (eDc (iOf a) (tgN k) tt tk tv vs ρ S) Q := by
  refine wDc (wOf (h.imp fun v S1 ⟨e, hx, ht, hk, hv, q⟩ => ?_))
  subst e
  refine ⟨_, rfl, ?_⟩
  exact dc_loop (xs := xs) (fun i acc => rfl) ht hk hv hx xs [] [] _ rfl (by show _ < xs.length + 1; omega) (Nat.le_refl _) q
/-! quiet generator expressions -/
theorem wTupS {fi : EF} {kk : List Nat} (h : WE (fi ρ S) fun v S1 => ∃ items, itemsQ v = some items ∧ (∀ a ∈ items, kk.length + a.length ≤ LINE) ∧ items.length ≤ LINE ∧ Q (.tup (items.map fun a => PV.str (kk ++ a))) S1) : WE (eTupS fi kk ρ S) Q := wBind (h.imp fun v S1 ⟨items, e, h1, h2, q⟩ => by
  rw [e]
  have : (items.all fun a => decide (kk.length + a.length ≤ LINE)) = true := by
    rw [List.all_eq_true]
    exact fun a ha => decide_eq_true (h1 a ha)
  simp only [this, decide_eq_true h2, Bool.and_self, if_true]
  exact ⟨_, _, rfl, q⟩)
theorem wAllS {fi : EF} {p : Nat → Bool} (h : WE (fi ρ S) fun v S1 => ∃ s, v = .str s ∧ Q (.bl (s.all p)) S1) : WE (eAllS fi p ρ S) Q := wBind (h.imp fun v S1 ⟨s, e, q⟩ => by subst e; exact ⟨_, _, rfl, q⟩)
/-! and, or as values; chains -/
theorem wAndV (h : WE (a ρ S) fun v S1 => ∃ c, truP v S1 = some c ∧ if c = true then WE (b ρ S1) Q else Q v S1) : WE (eAnd a b ρ S) Q := wBind (h.imp fun v S1 ⟨c, e, q⟩ => by
  rw [e]
  cases c with
  | true => exact q
  | false => exact ⟨_, _, rfl, q⟩)
theorem wOrV (h : WE (a ρ S) fun v S1 => ∃ c, truP v S1 = some c ∧ if c = true then Q v S1 else WE (b ρ S1) Q) : WE (eOr a b ρ S) Q := wBind (h.imp fun v S1 ⟨c, e, q⟩ => by
  rw [e]
  cases c with
  | true => exact ⟨_, _, rfl, q⟩
  | false => exact q)
theorem wRg1 (h : WE (as ρ S) fun vs S1 => ∃ n, vs = [.int n] ∧ small62 n = true ∧ QI (.rng 0 n.toNat) S1) : WE (iRg1 as ρ S) QI := wBind (h.imp fun vs S1 ⟨n, e, hs, q⟩ => by
  subst e
  simp only [hs, if_true]
  exact ⟨_, _, rfl, q⟩)
end
end Ev


/-! Ev: pop, index, reads of a dict. -/
namespace Ev
open PySem PySem.Spec PyProof.Rows L2
section
variable {X : Cx} {g : G} {W : WX} {pos cpos apos : Pos} {a b o e e2 : Expr} {fa fb fo fe fd : EF}
/-! ### l.pop() -/
def popP (v : PV) (S : Store) : Option (PV × Store) := match v with
  | .loc l => match S[l]? with
    | some (.lst xs) => match xs[xs.length - 1]? with
      | some y => some (y, S.set l (.lst xs.dropLast))
      | none => none
    | _ => none
  | _ => none
theorem Rps.dropLast {K : PySem.W.Frag} {μ : List Addr} {H : Hp} {xs : List PV} {vs : List V} (h : Rps K μ H xs vs) : Rps K μ H xs.dropLast vs.dropLast := by
  rw [List.dropLast_eq_take, List.dropLast_eq_take, ← h.length]
  exact h.take _
theorem se_pop (hbase : attributeBase o "pop" X.env (eval o X.env) = eval o X.env := by rfl) (hline : (apos.endLine == cpos.line) = true := by rfl) (ho : SE X g W o fo) : SE X g W (.Call (.Attribute o "pop" apos) [] [] cpos) (eUn popP fo) :=
  PEimp (pe_bm0 PySem.F.plainAttrs_list PySem.F.slot_list_pop PySem.F.type_list_pop mt_pop ho hbase hline) fun σ H Q h => one h fun μ v S x H2 rs rv q => by
    obtain ⟨z, S', e, k⟩ := Post.ofO q
    unfold popP at e
    split at e
    · split at e
      · rename_i xs e1
        split at e
        · rename_i y e2
          cases e
          cases rv with
          | loc h1 =>
            obtain ⟨vs, q1, r1⟩ := rs.lst h1 e1
            have wq := Wr.lst q1
            obtain ⟨yv, e3, ry⟩ := r1.get e2
            rw [r1.length] at e3
            refine ⟨.inl ⟨rfl, vs, .inl (.inl q1)⟩, _, vs, yv, rfl, rfl, q1, e3, ?_⟩
            exact k μ _ _ .refl (.upd wq) (rs.put (so := .lst xs.dropLast) h1 e1 rfl rfl ⟨_, upd_same, r1.dropLast.mono .refl (.upd wq)⟩) (ry.mono .refl (.upd wq))
        · cases e
      · cases e
    · cases e
/-! ### t.index(s), a tuple of texts -/
def allStr : List PV → Option (List (List Nat))
  | [] => some []
  | .str s :: r => match allStr r with
    | some l => some (s :: l)
    | none => none
  | _ => none
theorem allStr_vals {μ : List Addr} {H : Hp} : ∀ {xs : List PV} {vs : List V} {ys : List (List Nat)}, Rps g.K μ H xs vs → allStr xs = some ys → vs = (ys.map fun s => (⟨s.toArray⟩ : Str)).map V.str ∧ xs = ys.map PV.str
  | _, _, _, .nil, e => by cases e; exact ⟨rfl, rfl⟩
  | x :: xs, _, _, .cons h r, e => by
    unfold allStr at e
    split at e
    · rename_i e0; cases e0
    · rename_i s r' e0
      cases e0
      split at e
      · rename_i l e2
        cases e
        cases h
        obtain ⟨h1, h2⟩ := allStr_vals r e2
        rw [h1, h2]
        exact ⟨rfl, rfl⟩
      · cases e
    · cases e
/-- e[::-1].index(y), y a name -/
def tRix (K : PySem.W.Frag) (i : Nat) (te : TE) : TE := fun σ H Q => te σ H fun x H1 => ∃ (a : Addr) (ys : List Str) (z : Str) (j : Nat), x = .ref a ∧ SqT K H1 a (ys.map V.str) ∧ σ[i]? = some (some (.str z)) ∧ ys.reverse[j]? = some z ∧ (∀ m : Nat, m < j → ys.reverse[m]? ≠ some z) ∧
  ∀ (p : Addr) (o : Obj), H1 p = none → Q (.int (j : Nat)) (upd H1 p (.frz o (.tup (ys.reverse.map V.str))))
theorem pe_rix {e : Expr} {te : TE} {i k : Nat} {y : Str} {p1 p2 p3 p4 py apos cpos : Pos} (he : PE X e te) (hN : X.N[i]? = some y) (hv : Vis X.env.scope y)
    (hbase : attributeBase (.Subscript e (.Slice none none (some (.UnaryOp .USub (.Constant (.int 1) k p1) p2)) p3) p4) "index" X.env (eval (.Subscript e (.Slice none none (some (.UnaryOp .USub (.Constant (.int 1) k p1) p2)) p3) p4) X.env) = eval (.Subscript e (.Slice none none (some (.UnaryOp .USub (.Constant (.int 1) k p1) p2)) p3) p4) X.env := by rfl)
    (hfew : ((backTo cpos (starEach [.Name y py] X.env)).all (fun x => !x.1) && (backToKw cpos (keywordEach [] X.env)).all (fun x => x.1.isSome)
      && decide (([.Name y py] : List Expr).length + ([] : List Keyword).length + (if ([] : List Keyword).isEmpty then 0 else 1) < 30)) = true := by rfl)
    (hline : (apos.endLine == cpos.line) = true := by rfl) (hd : (y == ("__debug__" : Str)) = false := by decide) (hcd : (y == ("__classdict__" : Str)) = false := by decide) :
    PE X (.Call (.Attribute (.Subscript e (.Slice none none (some (.UnaryOp .USub (.Constant (.int 1) k p1) p2)) p3) p4) "index" apos) [.Name y py] [] cpos) (tRix X.K i te) := by
  refine ⟨fun pins s σ H Q I h => ?_⟩
  refine wpAny_Call_method_late hbase hfew hline rfl (Subscript_ (thn (he.run pins s σ H _ I h) fun v s1 ⟨x, H1, I1, r1, q1⟩ => ?_))
  obtain ⟨a, ys, z, j, ex, hx, hz, hj, hno, q⟩ := q1
  subst ex
  cases r1
  have hst : PO X (some (.UnaryOp .USub (.Constant (.int 1) k p1) p2)) (tPart (tUn (rU fun i => .int (-i)) (tC (.int 1)))) := po_some (pe_un un_neg pe_int)
  refine wpAny_Slice (thn (po_none.run pins s1 σ H1 (fun o H2 => o = none ∧ H2 = H1) I1 ⟨rfl, rfl⟩) fun vl s2 ⟨l, H2, I2, pl, el, e2⟩ => ?_)
  subst el e2
  refine thn (po_none.run pins s2 σ H2 (fun o H3 => o = none ∧ H3 = H2) I2 ⟨rfl, rfl⟩) fun vu s3 ⟨u, H3, I3, pu, eu, e3⟩ => ?_
  subst eu e3
  refine thn (hst.run pins s3 σ H3 (fun o H4 => o = some (-1) ∧ H4 = H3) I3 ⟨1, rfl, -1, rfl, rfl, rfl⟩) fun vs s4 ⟨o, H4, I4, ps, eo, e4⟩ => ?_
  subst eo e4
  have I5 : Inv X pins σ H4 { s4 with heap := s4.heap.push { cls := .type "slice", data := .fields #[vl, vu, vs] } } := I4.kept (t' := s4.toks) fun b ob q => Heap.get?_push_of_some _ q
  show wpAny (model X.prog X.w) X.A (subscriptTail e (.Slice none none (some (.UnaryOp .USub (.Constant (.int 1) k p1) p2)) p3) (.ref a) (.ref s4.heap.objs.size)) _ X.xe { s4 with heap := s4.heap.push { cls := .type "slice", data := .fields #[vl, vu, vs] } }
  obtain ⟨its, r, ht, hz2⟩ := I5.tuple hx
  have hlen := r.length
  refine tail_any (ops := [.ref a, .ref s4.heap.objs.size]) ht.typeIs (PyProof.Rows.slot_tuple_getitem.lookup) ?_ (by with_unfolding_all rfl)
  refine EvT.getItem_tuple_rev ht (Heap.IsSliceOf.new _ vl vu vs) pl pu ps ?_ (by rw [List.size_toArray]; omega)
  have er : (ys.map V.str).reverse = ys.reverse.map V.str := by rw [List.map_reverse]
  have I6 := I5.laid (t' := s4.toks) (o := .frz { cls := .type "tuple", data := .seq its.toArray.toList.reverse.toArray } (.tup (ys.reverse.map V.str))) (fun b ob q => Heap.get?_push_of_some _ q) (Nat.le_refl _)
    (show ObjOk X.prog X.w _ _ _ (.frz _ (.tup (ys.reverse.map V.str))) from ⟨Heap.get?_push_size _ rfl, by rw [← er, List.length_reverse]; exact hz2, _, by rw [← er]; exact r.reverse, ⟨_, Heap.get?_push_size _ rfl, rfl, 0, rfl⟩⟩)
  refine ⟨"tuple", "tuple.index", PySem.F.plainAttrs_tuple, PySem.F.slot_tuple_index, PySem.F.type_tuple_index, ⟨_, Heap.get?_push_size _ rfl, rfl⟩, fun b e => ?_, ?_⟩
  · cases e
    exact ⟨_, Heap.get?_push_size _ rfl, rfl⟩
  · have hA := (pa_cons (pe_var hN hv hd hcd (pos := py)) pa_nil).run cpos pins _ σ _ (fun us H' => us = [.str z] ∧ H' = _) I6 ⟨.str z, hz, rfl, rfl⟩
    refine Calls.callWith_builtin (by rfl) (Calls.evalArgs_plain ?_)
    refine thn hA fun us s2 ⟨vs, H2, I2, r2, q2⟩ => ?_
    obtain ⟨rfl, rfl⟩ := q2
    refine mt_tup_index pins s2 σ _ (.ref _) [.str z] _ us Q I2 rfl r2 ⟨_, ys.reverse, z, j, rfl, rfl, .inl (.inr ⟨_, upd_same⟩), hj, hno, ?_⟩
    exact q _ _ (I5.hok.fresh (Nat.le_refl _))
def rixP : BOp := fun v w S => match v, w with
  | .tup xs, .str s => match allStr xs with
    | some ys => match ys.reverse.findIdx? (· == s) with
      | some j => some (.int (j : Nat), S)
      | none => none
    | none => none
  | _, _ => none
theorem se_rix {i k : Nat} {y : Str} {p1 p2 p3 p4 py apos cpos : Pos} (hK : X.K = g.K) (he : SE X g W e fe) (hN : X.N[i]? = some y) (hv : Vis X.env.scope y)
    (hbase : attributeBase (.Subscript e (.Slice none none (some (.UnaryOp .USub (.Constant (.int 1) k p1) p2)) p3) p4) "index" X.env (eval (.Subscript e (.Slice none none (some (.UnaryOp .USub (.Constant (.int 1) k p1) p2)) p3) p4) X.env) = eval (.Subscript e (.Slice none none (some (.UnaryOp .USub (.Constant (.int 1) k p1) p2)) p3) p4) X.env := by rfl)
    (hfew : ((backTo cpos (starEach [.Name y py] X.env)).all (fun x => !x.1) && (backToKw cpos (keywordEach [] X.env)).all (fun x => x.1.isSome)
      && decide (([.Name y py] : List Expr).length + ([] : List Keyword).length + (if ([] : List Keyword).isEmpty then 0 else 1) < 30)) = true := by rfl)
    (hline : (apos.endLine == cpos.line) = true := by rfl) (hd : (y == ("__debug__" : Str)) = false := by decide) (hcd : (y == ("__classdict__" : Str)) = false := by decide) :
    SE X g W (.Call (.Attribute (.Subscript e (.Slice none none (some (.UnaryOp .USub (.Constant (.int 1) k p1) p2)) p3) p4) "index" apos) [.Name y py] [] cpos) (eBin rixP fe (eVar i)) :=
  PEimp (pe_rix he hN hv hbase hfew hline hd hcd) fun σ H Q ⟨μ, ρ, S, re, rs, p⟩ => by
    refine ⟨μ, ρ, S, re, rs, (Post.bind (r := fe ρ S) p).imp fun x H1 ⟨μ1, v, S1, p1, l1, rs1, rv, q⟩ => ?_⟩
    unfold eVar at q
    split at q
    · rename_i w ew
      obtain ⟨yv, ey, ry⟩ := (re.mono p1 l1).at_ i w ew
      obtain ⟨z, S', e9, kk⟩ := Post.ofO (show Post g (wx g W σ) μ1 H1 (Rp g.K) (R.ofO (rixP v w S1)) Q from q)
      unfold rixP at e9
      split at e9
      · rename_i xs s0
        split at e9
        · rename_i ys0 e10
          split at e9
          · rename_i j e11
            cases e9
            cases ry
            cases rv with
            | tup h1 r1 =>
              obtain ⟨hv1, hv2⟩ := allStr_vals r1 e10
              subst hv1
              rw [List.findIdx?_eq_some_iff_getElem] at e11
              obtain ⟨hj, hj1, hj2⟩ := e11
              have hj1 := eq_of_beq hj1
              have er : (ys0.map fun s => (⟨s.toArray⟩ : Str)).reverse = ys0.reverse.map fun s => (⟨s.toArray⟩ : Str) := by rw [List.map_reverse]
              refine ⟨_, ys0.map fun s => (⟨s.toArray⟩ : Str), ⟨s0.toArray⟩, j, rfl, by rw [hK]; exact h1, ey, ?_, fun m hm => ?_, fun p o hp => ?_⟩
              · rw [er, List.getElem?_map, List.getElem?_eq_getElem hj, hj1]; rfl
              · have hm2 := hj2 m hm
                rw [er, List.getElem?_map, List.getElem?_eq_getElem (Nat.lt_trans hm hj)]
                intro z
                have z := Option.some.inj z
                have z2 : ys0.reverse[m] = s0 := by simpa using congrArg (fun s : Str => s.cps.toList) z
                rw [z2] at hm2
                exact hm2 (beq_self_eq_true _)
              · exact kk μ1 _ _ .refl (.upd (.none hp)) (rs1.laid hp) (.int _)
          · cases e9
        · cases e9
      · cases e9
    · exact q.elim
/-! ### d[k], d.get(k, x), k in d -/
def dixP : BOp := fun v i S => match v with
  | .loc l => match S[l]? with
    | some (.dic kvs) => if keyP i then match valP kvs i with
      | some z => some (z, S)
      | none => none
      else none
    | _ => none
  | _ => none
theorem se_dix (hu : X.A.units + 1 < cLine) (ha : SE X g W a fa) (hb : SE X g W b fb) (hs : NoSl b := by exact fun _ _ => rfl) : SE X g W (.Subscript a b pos) (eBin dixP fa fb) :=
  PEimp (pe_dget hu ha hb hs) fun σ H Q h => two h fun μ v w S x y H2 rs rv rw' q => by
    obtain ⟨z, S', e, k⟩ := Post.ofO q
    unfold dixP at e
    split at e
    · split at e
      · rename_i kvs e1
        split at e
        · rename_i hk
          split at e
          · rename_i z' e2
            cases e
            cases rv with
            | loc h1 =>
              obtain ⟨ks, q1, rr⟩ := rs.dic h1 e1
              obtain ⟨yk, rk, rfl⟩ := Rk.of rw' hk
              obtain ⟨xv, e3, rx⟩ := (Rkv.val rk rr).1 _ e2
              exact ⟨_, xv, rfl, e3 ▸ DGet.k q1, k μ _ H2 .refl .refl rs rx⟩
          · cases e
        · cases e
      · cases e
    · cases e
/-- k in d -/
def dinP (neg : Bool) : BOp := fun i v S => match v with
  | .loc l => match S[l]? with
    | some (.dic kvs) => if keyP i then some (.bl (if neg then !hasP i kvs else hasP i kvs), S) else none
    | _ => none
  | _ => none
theorem has_some {k : PV} {y : Key} {μ : List Addr} {H : Hp} (hk : Rk k y) {kvs : List (PV × PV)} {ks : List (Key × V)} (r : Rkv g.K μ H kvs ks) : (valV ks y).isSome = hasP k kvs := by
  rw [Rkv.has hk r]
  unfold valV
  rw [Option.isSome_map]
  clear r
  induction ks with
  | nil => rfl
  | cons kv ks ih =>
    rw [List.find?_cons, List.any_cons, ← ih]
    cases decide (kv.1 = y) <;> rfl
end
end Ev


/-! Ev: a dict locked while it is walked. -/
namespace Ev
open PySem PySem.Spec PyProof.Rows L2
section
variable {g : G} {μ : List Addr} {S : Store} {H : Hp}
theorem RS.rdc (rs : RS g μ S H) {l : Nat} {p : Addr} {kvs : List (PV × PV)} (h1 : μ[l]? = some p) (h2 : S[l]? = some (.rdc kvs)) : ∃ o ks, H p = some (.frz o (.dK ks)) ∧ Rkv g.K μ H kvs ks := rs.obj l p _ h1 h2
theorem Rkv.get {K : PySem.W.Frag} {μ : List Addr} {H : Hp} : ∀ {kvs : List (PV × PV)} {ks : List (Key × V)} {i : Nat} {kv : PV × PV}, Rkv K μ H kvs ks → kvs[i]? = some kv → ∃ k v, ks[i]? = some (k, v) ∧ Rk kv.1 k ∧ Rp K μ H kv.2 v
  | _, _, _, _, .nil, e => by simp at e
  | _, _, 0, _, .cons hk h _, e => by simp at e; subst e; exact ⟨_, _, rfl, hk, h⟩
  | _, _, i + 1, kv, .cons _ _ r, e => by
    obtain ⟨k, v, h1, h2, h3⟩ := Rkv.get (i := i) (kv := kv) r (by simpa using e)
    exact ⟨k, v, by simpa using h1, h2, h3⟩
theorem Rk.rp {K : PySem.W.Frag} {μ : List Addr} {H : Hp} {v : PV} {k : Key} (h : Rk v k) : Rp K μ H v (kV k) := by
  cases h with
  | int i => exact .int i
  | str s => exact .str s
theorem RS.lock (rs : RS g μ S H) {l : Nat} {a : Addr} {kvs : List (PV × PV)} {ks : List (Key × V)} (od : Obj) (h1 : μ[l]? = some a) (h2 : S[l]? = some (.dic kvs)) (e : H a = some (.dK ks)) (r : Rkv g.K μ H kvs ks) : RS g μ (S.set l (.rdc kvs)) (upd H a (.frz od (.dK ks))) :=
  rs.put h1 h2 rfl rfl ⟨od, ks, upd_same, r.mono .refl (.upd (.dK e))⟩
theorem tup_unlock {K : PySem.W.Frag} {a : Addr} {od : Obj} {ks : List (Key × V)} (e : H a = some (.frz od (.dK ks))) : ∀ b vs, SqT K H b vs → SqT K (upd H a (.dK ks)) b vs := by
  rintro b vs ((q | ⟨o, q⟩) | q)
  · exact .inl (.inl (by rw [upd_ne (fun z => by rw [z, e] at q; cases q)]; exact q))
  · exact .inl (.inr ⟨o, by rw [upd_ne (fun z => by rw [z, e] at q; cases q)]; exact q⟩)
  · exact .inr q
theorem Ro.keepF {a b : Addr} {so : SO} {od : Obj} {ks : List (Key × V)} (h : Ro g μ H b so) (e : H a = some (.frz od (.dK ks))) (ne : so.mut = true → b ≠ a) : Ro g μ (upd H a (.dK ks)) b so := by
  have l := tup_unlock (K := g.K) e
  cases so with
  | lst xs => obtain ⟨vs, q, r⟩ := h; exact ⟨vs, by rw [upd_ne (ne rfl)]; exact q, r.monoT .refl l⟩
  | rol xs =>
    obtain ⟨vs, q, r⟩ := h
    refine ⟨vs, ?_, r.monoT .refl l⟩
    rcases q with ⟨ob, q⟩ | q
    · exact .inl ⟨ob, by rw [upd_ne (fun z => by rw [z, e] at q; cases q)]; exact q⟩
    · exact .inr q
  | dic kvs => obtain ⟨ks2, q, r⟩ := h; exact ⟨ks2, by rw [upd_ne (ne rfl)]; exact q, r.monoT .refl l⟩
  | ins c fs => obtain ⟨C, dx, vs, e1, q, r⟩ := h; exact ⟨C, dx, vs, e1, by rw [upd_ne (ne rfl)]; exact q, r.monoT .refl l⟩
  | lam j =>
    obtain ⟨c, e1, e2⟩ := h
    exact ⟨c, by rw [upd_ne (fun z => by rw [z, e] at e1; cases e1)]; exact e1, by rw [upd_ne (fun z => by rw [z, e] at e2; cases e2)]; exact e2⟩
  | rdc kvs => obtain ⟨o2, ks2, q, r⟩ := h; exact ⟨o2, ks2, by rw [upd_ne (ne rfl)]; exact q, r.monoT .refl l⟩
theorem TabN.unlock {p : Addr × Option Str} {a : Addr} {od : Obj} {ks : List (Key × V)} (h : TabN H p) (e : H a = some (.frz od (.dK ks))) : TabN (L2.upd H a (.dK ks)) p := by
  obtain ⟨P, q⟩ := p
  cases q with
  | none =>
    obtain ⟨ps, e1, t⟩ := h
    exact ⟨ps, by rw [L2.upd_ne (fun z => by rw [z, e] at e1; cases e1)]; exact e1, t⟩
  | some q =>
    obtain ⟨ps, e1, t, n⟩ := h
    refine ⟨ps, by rw [L2.upd_ne (fun z => by rw [z, e] at e1; cases e1)]; exact e1, t, fun pos cv hc => ?_⟩
    obtain ⟨c, e2, e3⟩ := n pos cv hc
    exact ⟨c, e2, by rw [L2.upd_ne (fun z => by rw [z, e] at e3; cases e3)]; exact e3⟩
theorem RS.unlock (rs : RS g μ S H) {l : Nat} {a : Addr} {kvs : List (PV × PV)} {od : Obj} {ks : List (Key × V)} (h1 : μ[l]? = some a) (h2 : S[l]? = some (.rdc kvs)) (e : H a = some (.frz od (.dK ks))) : RS g μ (S.set l (.dic kvs)) (upd H a (.dK ks)) := by
  have hl : l < S.length := (List.getElem?_eq_some_iff.mp h2).1
  obtain ⟨o2, ks2, q2, rr⟩ := rs.rdc h1 h2
  rw [e] at q2
  cases q2
  have back : ∀ {k : Nat} {o' : SO}, (S.set l (.dic kvs))[k]? = some o' → o'.mut = true → ∃ o2, S[k]? = some o2 ∧ o2.mut = true := fun {k o'} e mm => by
    by_cases hk : l = k
    · subst hk; exact ⟨_, h2, rfl⟩
    · rw [List.getElem?_set_ne hk] at e; exact ⟨_, e, mm⟩
  refine ⟨by rw [List.length_set]; exact rs.len, fun k k' b o1 o2 e1 e2 e3 e4 m1 m2 => ?_, fun k b so' e1 e2 => ?_, fun P hP => (rs.tabs P hP).unlock e⟩
  · obtain ⟨q1, b1, c1⟩ := back e3 m1
    obtain ⟨q2, b2, c2⟩ := back e4 m2
    exact rs.nd k k' b q1 q2 e1 e2 b1 b2 c1 c2
  · by_cases hk : l = k
    · subst hk
      rw [List.getElem?_set_self hl] at e2
      cases e2
      rw [h1] at e1; cases e1
      exact ⟨ks, upd_same, rr.monoT .refl (tup_unlock e)⟩
    · rw [List.getElem?_set_ne hk] at e2
      exact (rs.obj k b so' e1 e2).keepF e fun mm z => hk (rs.nd l k a _ so' h1 (z ▸ e1) h2 e2 rfl mm)
theorem Le.unlock {K : PySem.W.Frag} {H' : Hp} {a : Addr} {od : Obj} {ks ks' : List (Key × V)} (e : H a = some (.dK ks)) (l : Le K (L2.upd H a (.frz od (.dK ks))) H') : Le K H (L2.upd H' a (.dK ks')) := by
  have ne : ∀ {b o}, H b = some o → (∀ k, o ≠ .dK k) → b ≠ a := fun {b o} q n z => by
    rw [z, e] at q
    exact n ks (Option.some.inj q).symm
  refine ⟨?_, fun b o u q => ?_, fun b p q => ?_⟩
  · rintro b vs h
    have hb : (∃ o, H b = some o ∧ ∀ k, o ≠ .dK k) ∨ ∃ (o : Obj) (its : Array Value) (n : Nat), K.lookup b = some o ∧ o.cls = .type "tuple" ∧ o.data = .seq its n ∧ its.size ≤ sizeLine ∧ Vals vs its.toList := by
      rcases h with (q | ⟨o, q⟩) | q
      · exact .inl ⟨_, q, fun k z => by cases z⟩
      · exact .inl ⟨_, q, fun k z => by cases z⟩
      · exact .inr q
    rcases hb with ⟨o, q, n⟩ | q
    · have hn := ne q n
      have h1 : SqT K (L2.upd H a (.frz od (.dK ks))) b vs := by
        rcases h with (q | ⟨o, q⟩) | q
        · exact .inl (.inl (by rw [L2.upd_ne hn]; exact q))
        · exact .inl (.inr ⟨o, by rw [L2.upd_ne hn]; exact q⟩)
        · exact .inr q
      rcases l.tup _ _ h1 with (q | ⟨o, q⟩) | q
      · exact .inl (.inl (by rw [L2.upd_ne hn]; exact q))
      · exact .inl (.inr ⟨o, by rw [L2.upd_ne hn]; exact q⟩)
      · exact .inr q
    · exact .inr q
  · have hn := ne q fun k z => by cases z
    rw [L2.upd_ne hn]
    exact l.frz _ _ _ (by rw [L2.upd_ne hn]; exact q)
  · have hn := ne q fun k z => by cases z
    rw [L2.upd_ne hn]
    exact l.ext _ _ (by rw [L2.upd_ne hn]; exact q)
end
def eLock (i : Nat) (f : EF) : EF := fun ρ S => match ρ[i]? with
  | some (some (.loc l)) => match S[l]? with
    | some (.dic kvs) => match f ρ (S.set l (.rdc kvs)) with
      | .ok v S' => match S'[l]? with
        | some (.rdc kvs') => .ok v (S'.set l (.dic kvs'))
        | _ => .bad
      | _ => .bad
    | _ => .bad
  | _ => .bad
section
variable {X : Cx} {g : G} {W : WX} {pos cpos apos : Pos} {a b o e tg : Expr} {fa fb fo fe fd f : EF}
theorem se_lock (i : Nat) (h : SE X g W e f) : SE X g W e (eLock i f) :=
  PEimp (pe_lock h) fun σ H Q ⟨μ, ρ, S, re, rs, p⟩ => by
    unfold eLock at p
    split at p
    · rename_i l e1
      split at p
      · rename_i kvs e2
        obtain ⟨x, ex, rx⟩ := re.at_ i _ e1
        cases rx with
        | loc h1 =>
          obtain ⟨ks, q1, rr⟩ := rs.dic h1 e2
          refine ⟨_, _, q1, True.intro, fun od => ⟨μ, ρ, S.set l (.rdc kvs), re.mono .refl (.upd (.dK q1)), rs.lock od h1 e2 q1 rr, ?_⟩⟩
          cases er : f ρ (S.set l (.rdc kvs)) with
          | bad => rw [er] at p; exact p.elim
          | exc c S' => rw [er] at p; exact p.elim
          | ok v S' =>
            rw [er] at p
            simp only at p
            split at p
            · rename_i kvs' e3
              intro μ' x' H' hp hl rs' rx'
              have h2 := hp.get h1
              have hf := hl.frz _ _ _ upd_same
              exact ⟨hf, p μ' x' _ hp (hl.unlock q1) (rs'.unlock h2 e3 hf) (rx'.monoT .refl (tup_unlock hf))⟩
            · exact p.elim
      · exact p.elim
    · exact p.elim
/-! ### sources -/
def iItm (a : EF) : IF := fun ρ S => (a ρ S).bind fun v S1 => match v with
  | .loc l => match S1[l]? with
    | some (.rdc _) => .ok (.itm l) S1
    | _ => .bad
  | _ => .bad
def iKey (a : EF) : IF := fun ρ S => (a ρ S).bind fun v S1 => match v with
  | .loc l => match S1[l]? with
    | some (.rdc _) => .ok (.key l) S1
    | _ => .bad
  | _ => .bad
def iVal (a : EF) : IF := fun ρ S => (a ρ S).bind fun v S1 => match v with
  | .loc l => match S1[l]? with
    | some (.rdc _) => .ok (.val l) S1
    | _ => .bad
  | _ => .bad
theorem nth_key {S : Store} {l i : Nat} : nth (.key l) i S = (match S[l]? with
    | some (.rdc kvs) => some (kvs[i]?.map (·.1))
    | _ => none) := rfl
theorem nth_val {S : Store} {l i : Nat} : nth (.val l) i S = (match S[l]? with
    | some (.rdc kvs) => some (kvs[i]?.map (·.2))
    | _ => none) := rfl
theorem nth_itm {S : Store} {l i : Nat} : nth (.itm l) i S = (match S[l]? with
    | some (.rdc kvs) => some (kvs[i]?.map fun kv => PV.tup [kv.1, kv.2])
    | _ => none) := rfl
theorem itKey {μ0 : List Addr} {H0 : Hp} {l : Nat} {d : Addr} {o : Obj} {ks : List (Key × V)} (h1 : μ0[l]? = some d) (hd : H0 d = some (.frz o (.dK ks))) : ItOk g μ0 H0 (.key l) (Itk d o ks) := by
  intro μ S H i hp hl rs
  have h' := hl.frz _ _ _ hd
  have h1' := hp.get h1
  refine ⟨fun e => ?_, fun v e => ?_⟩
  · rw [nth_key] at e
    split at e
    · rename_i kvs e2
      obtain ⟨o2, ks2, q, rr⟩ := rs.rdc h1' e2
      rw [h'] at q
      cases q
      have e3 := Option.some.inj e
      rw [Option.map_eq_none_iff, List.getElem?_eq_none_iff] at e3
      exact ⟨h', by rw [← rr.length]; exact e3⟩
    · cases e
  · rw [nth_key] at e
    split at e
    · rename_i kvs e2
      obtain ⟨o2, ks2, q, rr⟩ := rs.rdc h1' e2
      rw [h'] at q
      cases q
      obtain ⟨kv, e4, e5⟩ := Option.map_eq_some_iff.mp (Option.some.inj e)
      obtain ⟨k, y, e6, hk, ry⟩ := rr.get e4
      refine ⟨⟨h', by rw [← rr.length]; exact (List.getElem?_eq_some_iff.mp e4).1⟩, fun x H' hy => ?_⟩
      obtain ⟨rfl, k2, v2, e7, rfl⟩ := hy
      rw [e6] at e7
      cases e7
      exact ⟨.refl, rs, by rw [← e5]; exact hk.rp⟩
    · cases e
theorem itVal {μ0 : List Addr} {H0 : Hp} {l : Nat} {d : Addr} {o : Obj} {ks : List (Key × V)} (h1 : μ0[l]? = some d) (hd : H0 d = some (.frz o (.dK ks))) : ItOk g μ0 H0 (.val l) (Itd d o ks) := by
  intro μ S H i hp hl rs
  have h' := hl.frz _ _ _ hd
  have h1' := hp.get h1
  refine ⟨fun e => ?_, fun v e => ?_⟩
  · rw [nth_val] at e
    split at e
    · rename_i kvs e2
      obtain ⟨o2, ks2, q, rr⟩ := rs.rdc h1' e2
      rw [h'] at q
      cases q
      have e3 := Option.some.inj e
      rw [Option.map_eq_none_iff, List.getElem?_eq_none_iff] at e3
      exact ⟨h', by rw [← rr.length]; exact e3⟩
    · cases e
  · rw [nth_val] at e
    split at e
    · rename_i kvs e2
      obtain ⟨o2, ks2, q, rr⟩ := rs.rdc h1' e2
      rw [h'] at q
      cases q
      obtain ⟨kv, e4, e5⟩ := Option.map_eq_some_iff.mp (Option.some.inj e)
      obtain ⟨k, y, e6, hk, ry⟩ := rr.get e4
      refine ⟨⟨h', by rw [← rr.length]; exact (List.getElem?_eq_some_iff.mp e4).1⟩, fun x H' hy => ?_⟩
      obtain ⟨rfl, k2, e7⟩ := hy
      rw [e6] at e7
      cases e7
      exact ⟨.refl, rs, by rw [← e5]; exact ry⟩
    · cases e
theorem itItm {μ0 : List Addr} {H0 : Hp} {l : Nat} {d : Addr} {o : Obj} {ks : List (Key × V)} (h1 : μ0[l]? = some d) (hd : H0 d = some (.frz o (.dK ks))) : ItOk g μ0 H0 (.itm l) (Iti d o ks) := by
  intro μ S H i hp hl rs
  have h' := hl.frz _ _ _ hd
  have h1' := hp.get h1
  refine ⟨fun e => ?_, fun v e => ?_⟩
  · rw [nth_itm] at e
    split at e
    · rename_i kvs e2
      obtain ⟨o2, ks2, q, rr⟩ := rs.rdc h1' e2
      rw [h'] at q
      cases q
      have e3 := Option.some.inj e
      rw [Option.map_eq_none_iff, List.getElem?_eq_none_iff] at e3
      exact ⟨h', by rw [← rr.length]; exact e3⟩
    · cases e
  · rw [nth_itm] at e
    split at e
    · rename_i kvs e2
      obtain ⟨o2, ks2, q, rr⟩ := rs.rdc h1' e2
      rw [h'] at q
      cases q
      obtain ⟨kv, e4, e5⟩ := Option.map_eq_some_iff.mp (Option.some.inj e)
      obtain ⟨k, y, e6, hk, ry⟩ := rr.get e4
      refine ⟨⟨h', by rw [← rr.length]; exact (List.getElem?_eq_some_iff.mp e4).1⟩, fun x H' hy => ?_⟩
      obtain ⟨T, k2, v2, e7, rfl, hT, rfl⟩ := hy
      rw [e6] at e7
      cases e7
      exact ⟨.upd (.none hT), rs.laid hT, by rw [← e5]; exact .newT hT (.cons hk.rp (.cons ry .nil))⟩
    · cases e
theorem si_key (ha : SE X g W a fa) : SI X g W tg a (iKey fa) :=
  PIimp (pi_keys ha) fun σ H R ⟨μ, ρ, S, re, rs, p⟩ => by
    refine ⟨μ, ρ, S, re, rs, (Post.bind p).imp fun x H1 ⟨μ1, v, S1, p1, l1, rs1, rv, q⟩ => ?_⟩
    split at q
    · split at q
      · rename_i kvs e1
        cases rv with
        | loc h1 =>
          obtain ⟨o, ks, hd, rr⟩ := rs1.rdc h1 e1
          exact ⟨_, o, rfl, .inl ⟨ks, hd, Post.here q rs1 (itKey h1 hd)⟩⟩
      · exact q.elim
    · exact q.elim
theorem si_val (ha : SE X g W a fa) (hbase : attributeBase a "values" X.env (eval a X.env) = eval a X.env := by rfl) (hline : (apos.endLine == cpos.line) = true := by rfl) : SI X g W tg (.Call (.Attribute a "values" apos) [] [] cpos) (iVal fa) :=
  PIimp (pi_values ha hbase hline) fun σ H R ⟨μ, ρ, S, re, rs, p⟩ => by
    refine ⟨μ, ρ, S, re, rs, (Post.bind p).imp fun x H1 ⟨μ1, v, S1, p1, l1, rs1, rv, q⟩ => ?_⟩
    split at q
    · split at q
      · rename_i kvs e1
        cases rv with
        | loc h1 =>
          obtain ⟨o, ks, hd, rr⟩ := rs1.rdc h1 e1
          exact ⟨_, o, ks, rfl, hd, Post.here q rs1 (itVal h1 hd)⟩
      · exact q.elim
    · exact q.elim
theorem si_itm {elts : List Expr} {kk : Nat} {tpos : Pos} (ha : SE X g W a fa) (hbase : attributeBase a "items" X.env (eval a X.env) = eval a X.env := by rfl) (hline : (apos.endLine == cpos.line) = true := by rfl) : SI X g W (.Tuple elts kk tpos) (.Call (.Attribute a "items" apos) [] [] cpos) (iItm fa) :=
  PIimp (pi_items ha hbase hline) fun σ H R ⟨μ, ρ, S, re, rs, p⟩ => by
    refine ⟨μ, ρ, S, re, rs, (Post.bind p).imp fun x H1 ⟨μ1, v, S1, p1, l1, rs1, rv, q⟩ => ?_⟩
    split at q
    · split at q
      · rename_i kvs e1
        cases rv with
        | loc h1 =>
          obtain ⟨o, ks, hd, rr⟩ := rs1.rdc h1 e1
          exact ⟨_, o, ks, rfl, hd, Post.here q rs1 (itItm h1 hd)⟩
      · exact q.elim
    · exact q.elim
end
end Ev


/-! Ev: sum(lists, []). -/
namespace EvS
open PySem PySem.Spec PyProof.Rows L2
open Sem (wp)
theorem args2 (a b : Value) : argsOk "sum" ⟨[a, b], []⟩ := by unfold argsOk; kernel_rfl
theorem sub_ls : isSubtype (.type "list") (.type "str") = pure false := by rw [isSubtype_type]; kernel_rfl
theorem sub_lb : isSubtype (.type "list") (.type "bytes") = pure false := by rw [isSubtype_type]; kernel_rfl
theorem sub_lba : isSubtype (.type "list") (.type "bytearray") = pure false := by rw [isSubtype_type]; kernel_rfl
def catL (z : List Value) (its : Nat → List Value) : Nat → List Value
  | 0 => z
  | i + 1 => catL z its i ++ its i
theorem catL_le (z : List Value) (its : Nat → List Value) : ∀ {i n : Nat}, i ≤ n → (catL z its i).length ≤ (catL z its n).length
  | i, 0, h => by obtain rfl : i = 0 := by omega
                  exact Nat.le_refl _
  | i, n + 1, h => by
    rcases Nat.lt_or_ge n i with h1 | h1
    · obtain rfl : i = n + 1 := by omega
      exact Nat.le_refl _
    · refine Nat.le_trans (catL_le z its h1) ?_
      show _ ≤ (catL z its n ++ its n).length
      rw [List.length_append]; omega
section
variable {prog : Program} {w : World} {A : Around} {R : Result → Shared → Prop} {I : Addr} {fp wr : List Addr} {n : Nat} {P : Nat → Value → Prop} {St : Nat → Heap → Prop}
theorem sum_loop_lists (W : Walks prog w A.in1 I fp wr n P St) (hex : ∀ i h, St i h → ∀ b ∈ fp, ∃ o, h.get? b = some o) (z : List Value) (its : Nat → List Value) (h0 : Heap) (hval : ∀ i v, P i v → ∃ a k, v = .ref a ∧ IsL h0 a (its i).toArray k) (h0fp : ∀ b ∈ wr, h0.get? b = none) (S : Addr) (hSf : S ∉ fp) (h0S : h0.get? S = none) (hmax : (catL z its n).length ≤ sizeLine) :
    ∀ (k i : Nat) (s : Shared) (acc : Addr) (c ca : Nat), n - i = k → i ≤ n → St i s.heap → (∀ b o, h0.get? b = some o → s.heap.get? b = some o) → acc ∉ wr → acc ≠ S → IsL s.heap acc (catL z its i).toArray ca →
    s.heap.get? S = some { cls := .type "list", dict := none, data := .seq #[.ref acc] c, slots := #[] } →
    (∀ h' tk acc' ca', (∀ b o, b ∉ wr → b ≠ S → s.heap.get? b = some o → h'.get? b = some o) → IsL h' acc' (catL z its n).toArray ca' → ((acc' = acc ∧ i = n) ∨ (i < n ∧ s.heap.get? acc' = none)) → R (.ok (.ret (.ref acc'))) { s with heap := h', toks := tk }) →
    codeAny (model prog w) A (.builtin "sum.loop" ⟨[.ref I, .ref S, rawInt 2, rawInt 0], []⟩) R s := by
  have hSw : S ∉ wr := fun h => hSf (W.sub _ h)
  intro k
  induction k with
  | zero =>
    intro i s acc c ca hk hi hst hext haf haS hacc hS hR
    have hin : i = n := by omega
    subst hin
    refine codeAny_builtin F.entry_sum_loop ?_
    rw [Around.under_plainId F.plain_sum_loop _]
    show wpAny _ A.in1 (seqItems? (.ref S) >>= _) _ _ s
    refine wpAny_bind (wpAny_seqItems hS rfl ?_)
    show wpAny _ A.in1 (tryCatch (pyNext (.ref I)) _ >>= _) _ _ s
    refine wpAny_bind (wpAny_tryCatch (W.done s _ _ hst fun h' tk hk' => ?_))
    have haw : acc ∉ wr := haf
    exact wpAny_pure (hR h' tk acc ca (fun b o hbw _ e => hk' b o hbw e) (hk' acc _ haw hacc) (.inl ⟨rfl, rfl⟩))
  | succ k ih =>
    intro i s acc c ca hk hi hst hext haf haS hacc hS hR
    have hln : i < n := by omega
    refine codeAny_builtin F.entry_sum_loop ?_
    rw [Around.under_plainId F.plain_sum_loop _]
    show wpAny _ A.in1 (seqItems? (.ref S) >>= _) _ _ s
    refine wpAny_bind (wpAny_seqItems hS rfl ?_)
    show wpAny _ A.in1 (tryCatch (pyNext (.ref I)) _ >>= _) _ _ s
    refine wpAny_bind (wpAny_tryCatch (W.item i s _ _ hln hst fun v h' tk hP hst' hk' => ?_))
    obtain ⟨a, ka, rfl, ha⟩ := hval i v hP
    have hS' := hk' S _ hSw hS
    have haw : acc ∉ wr := haf
    have hacc' : IsL h' acc (catL z its i).toArray ca := hk' acc _ haw hacc
    have ha' : IsL h' a (its i).toArray ka := hk' a _ (fun h => by have := h0fp a h; rw [ha] at this; cases this) (hext a _ ha)
    have fresh : h'.get? h'.objs.size = none := by
      cases e : h'.get? h'.objs.size with
      | none => rfl
      | some o => exact absurd (Heap.lt_size e) (Nat.lt_irrefl _)
    have sfresh : ∀ b, h'.get? b = none → s.heap.get? b = none := fun b hb => by
      cases e : s.heap.get? b with
      | none => rfl
      | some o =>
        exfalso
        by_cases h1 : b ∈ wr
        · obtain ⟨o', e'⟩ := hex _ _ hst' b (W.sub _ h1)
          rw [hb] at e'; cases e'
        · have := hk' b o h1 e
          rw [hb] at this; cases this
    have hle : (catL z its i ++ its i).length ≤ sizeLine := Nat.le_trans (catL_le z its (i := i + 1) hln) hmax
    show wpAny _ A.in1 ((holding [Value.ref a] (binaryOp .Add (.ref acc) (.ref a))).attempt >>= _) _ _ _
    refine wpAny_bind (wpAny_attempt (wpAny_holding (PySem.P.add_list hacc' ha' ?_ (by rw [List.size_toArray, List.size_toArray, ← List.length_append]; exact hle))))
    have ea : (catL z its i).toArray ++ (its i).toArray = (catL z its (i + 1)).toArray := by simp [catL]
    rw [ea]
    have hS1 := Heap.get?_push_of_some ({ cls := .type "list", data := .seq (catL z its (i + 1)).toArray } : Obj) hS'
    have hn1 : (h'.push ({ cls := .type "list", data := .seq (catL z its (i + 1)).toArray } : Obj)).get? h'.objs.size = some { cls := .type "list", data := .seq (catL z its (i + 1)).toArray } := Heap.get?_push_size _ rfl
    have hneS : h'.objs.size ≠ S := fun e => by
      rw [← e, fresh] at hS'; cases hS'
    have hnf : h'.objs.size ∉ fp := fun h => by
      obtain ⟨o', e'⟩ := hex _ _ hst' _ h
      rw [fresh] at e'; cases e'
    show wpAny _ A.in1 (updateSeq S (fun _ => #[.ref h'.objs.size]) >>= _) _ _ _
    refine wpAny_bind (wpAny_updateSeq hS1 rfl ?_)
    have hS2 := Heap.get?_update_self (Obj.mapSeq fun _ => #[Value.ref h'.objs.size]) hS1 rfl
    refine wpAny_bind (wpAny_letGo ?_)
    have up : ∀ b o, b ≠ S → (h'.push ({ cls := .type "list", data := .seq (catL z its (i + 1)).toArray } : Obj)).get? b = some o → (((h'.push ({ cls := .type "list", data := .seq (catL z its (i + 1)).toArray } : Obj)).update S (Obj.mapSeq fun _ => #[Value.ref h'.objs.size])).update S (Obj.mapSeq fun _ => #[Value.ref h'.objs.size])).get? b = some o := fun b o hb e =>
      (Heap.get?_update_other _ _ (Ne.symm hb)).trans ((Heap.get?_update_other _ _ (Ne.symm hb)).trans e)
    refine wpAny_bind (wpAny_updateSeq hS2 rfl (wpAny_pure ⟨plainId_quiet F.plain_sum_loop _, ih (i + 1) _ h'.objs.size _ _ (by omega) hln (W.frame _ _ _ hst' fun b hb o e => up b o (fun h => hSf (h ▸ hb)) (Heap.get?_push_of_some _ e)) (fun b o e => ?_) (fun h => hnf (W.sub _ h)) hneS (up _ _ hneS hn1) (Heap.get?_update_self _ hS2 rfl) fun h'' tk'' acc' ca' hk'' hL hor => ?_⟩))
    · refine up b o (fun h => by rw [h, h0S] at e; cases e) (Heap.get?_push_of_some _ (hk' b o (fun h => by have := h0fp b h; rw [e] at this; cases this) (hext b o e)))
    · refine hR h'' tk'' acc' ca' (fun b o hbw hbS e => hk'' b o hbw hbS (up b o hbS (Heap.get?_push_of_some _ (hk' b o hbw e)))) hL (.inr ⟨hln, ?_⟩)
      rcases hor with ⟨rfl, _⟩ | ⟨_, hor⟩
      · exact sfresh _ fresh
      · refine sfresh _ ?_
        cases e : h'.get? acc' with
        | none => rfl
        | some o =>
          exfalso
          by_cases hb : acc' = S
          · subst hb
            rw [Heap.get?_update_self _ hS2 rfl] at hor
            cases hor
          · rw [up _ _ hb (Heap.get?_push_of_some _ e)] at hor
            cases hor
end
section
variable {prog : Program} {w : World} {A : Around} {E : Value → Shared → Prop} {s : Shared} {l zl : Addr} {items : Array Value} {z : List Value} {cz : Nat}
theorem call_sum_lists {Q : Value → Shared → Prop} (hh : A.handled = none) (hl : s.heap.IsList l items) (hz : IsL s.heap zl z.toArray cz) (its : Nat → List Value) (hval : ∀ i v, items[i]? = some v → ∃ a k, v = .ref a ∧ IsL s.heap a (its i).toArray k) (hmax : (catL z its items.size).length ≤ sizeLine)
    (h : ∀ h' tk acc' ca', (∀ b o, s.heap.get? b = some o → h'.get? b = some o) → IsL h' acc' (catL z its items.size).toArray ca' → ((acc' = zl ∧ items.size = 0) ∨ (0 < items.size ∧ s.heap.get? acc' = none)) → Q (.ref acc') { s with heap := h', toks := tk }) :
    wpAny (model prog w) A (call (.builtin "sum") [.ref l, .ref zl]) Q E s := by
  have hlt : l < s.heap.objs.size := by obtain ⟨_, e, _⟩ := hl; exact Heap.lt_size e
  refine call_function_tree F.kind_sum F.plain_sum F.entry_sum (args2 _ _) ?_
  unfold Builtin.«sum»
  simp only [List.length_cons, List.length_nil]
  rw [if_neg (by decide)]
  refine wpAny_bind (wpAny_of_eq (show Builtin.Builtins.bindParams "sum" ["start"] 0 { pos := [.ref zl] } = pure [some (.ref zl)] from rfl) ?_)
  refine wpAny_bind (wpAny_pyIter_list hl ?_)
  have hI : (s.heap.push { cls := .type "list_iterator", data := .fields #[.ref l, .int 0 0] }).get? s.heap.objs.size = some { cls := .type "list_iterator", data := .fields #[.ref l, .int 0 0] } := Heap.get?_push_size _ rfl
  have none1 : s.heap.get? s.heap.objs.size = none := by
    cases e : s.heap.get? s.heap.objs.size with
    | none => rfl
    | some o => exact absurd (Heap.lt_size e) (Nat.lt_irrefl _)
  have hz1 := Heap.get?_push_of_some ({ cls := .type "list_iterator", data := .fields #[.ref l, .int 0 0] } : Obj) hz
  have hT : ({ s with heap := s.heap.push { cls := .type "list_iterator", data := .fields #[.ref l, .int 0 0] } } : Shared).TypeIs (.ref zl) "list" := ⟨_, hz1, rfl⟩
  refine wpAny_bind (wpAny_pure ?_)
  simp only [List.forIn_cons, List.forIn_nil]
  refine wpAny_bind (wpAny_bind (wpAny_bind (wpAny_isInstance (T := "list") (b := false) hT sub_ls ?_)))
  simp only [Bool.false_eq_true, if_false]
  refine wpAny_pure (wpAny_bind (wpAny_bind (wpAny_isInstance (T := "list") (b := false) hT sub_lb ?_)))
  simp only [Bool.false_eq_true, if_false]
  refine wpAny_pure (wpAny_bind (wpAny_bind (wpAny_isInstance (T := "list") (b := false) hT sub_lba ?_)))
  simp only [Bool.false_eq_true, if_false]
  refine wpAny_pure (wpAny_pure ?_)
  refine wpAny_bind (wpAny_newObj_type ?_)
  have szp : (s.heap.push ({ cls := .type "list_iterator", data := .fields #[.ref l, .int 0 0] } : Obj)).objs.size = s.heap.objs.size + 1 := Heap.size_push ..
  have noneAt : ∀ b, s.heap.objs.size ≤ b → s.heap.get? b = none := fun b hb => by
    cases e : s.heap.get? b with
    | none => rfl
    | some o => exact absurd (Heap.lt_size e) (Nat.not_lt_of_le hb)
  have ltz : zl < s.heap.objs.size := Heap.lt_size hz
  have hS : ((s.heap.push ({ cls := .type "list_iterator", data := .fields #[.ref l, .int 0 0] } : Obj)).push ({ cls := .type "list", data := .seq #[.ref zl] } : Obj)).get? (s.heap.push ({ cls := .type "list_iterator", data := .fields #[.ref l, .int 0 0] } : Obj)).objs.size = some { cls := .type "list", data := .seq #[.ref zl] } := Heap.get?_push_size _ rfl
  refine wpAny_pure ⟨plainId_quiet F.plain_sum_loop _, sum_loop_lists (Walks.list (A := A.in1) hh s.heap.objs.size l (Nat.ne_of_lt hlt) items) (fun i h st b hb => ?_) z its s.heap hval (fun b hb => ?_) (s.heap.push ({ cls := .type "list_iterator", data := .fields #[.ref l, .int 0 0] } : Obj)).objs.size (fun hb => ?_) (noneAt _ (by rw [szp]; exact Nat.le_succ _)) hmax items.size 0 _ zl 0 cz rfl (Nat.zero_le _)
    ⟨⟨_, Heap.get?_push_of_some _ hI, rfl, rfl⟩, (hl.push _).push _⟩ (fun b o e => Heap.get?_push_of_some _ (Heap.get?_push_of_some _ e)) (fun hb => ?_) (by rw [szp]; exact Nat.ne_of_lt (Nat.lt_succ_of_lt ltz)) (Heap.get?_push_of_some _ hz1) hS fun h' tk acc' ca' hk hL hor => ?_⟩
  · rcases List.mem_cons.mp hb with rfl | hb
    · obtain ⟨o, e, _⟩ := st.1; exact ⟨o, e⟩
    · rw [List.mem_singleton.mp hb]
      obtain ⟨o, e, _⟩ := st.2; exact ⟨o, e⟩
  · rw [List.mem_singleton.mp hb]; exact none1
  · rcases List.mem_cons.mp hb with h | hb
    · rw [szp] at h; exact absurd h (Nat.succ_ne_self _)
    · have h := List.mem_singleton.mp hb
      rw [szp] at h
      rw [← h] at hlt
      exact absurd (Nat.lt_of_succ_lt hlt) (Nat.lt_irrefl _)
  · have h := List.mem_singleton.mp hb
    rw [h] at ltz
    exact absurd ltz (Nat.lt_irrefl _)
  · refine h h' tk acc' ca' (fun b o e => hk b o (fun hb => ?_) (fun hb => ?_) (Heap.get?_push_of_some _ (Heap.get?_push_of_some _ e))) hL ?_
    · rw [List.mem_singleton.mp hb, none1] at e; cases e
    · rw [hb, noneAt _ (by rw [szp]; exact Nat.le_succ _)] at e; cases e
    · rcases hor with ⟨h1, h2⟩ | ⟨h0, h1⟩
      · exact .inl ⟨h1, h2.symm⟩
      · refine .inr ⟨h0, ?_⟩
        cases e : s.heap.get? acc' with
        | none => rfl
        | some o =>
          have := Heap.get?_push_of_some ({ cls := .type "list", data := .seq #[.ref zl] } : Obj) (Heap.get?_push_of_some ({ cls := .type "list_iterator", data := .fields #[.ref l, .int 0 0] } : Obj) e)
          have h1' : ((s.heap.push ({ cls := .type "list_iterator", data := .fields #[.ref l, .int 0 0] } : Obj)).push ({ cls := .type "list", data := .seq #[.ref zl] } : Obj)).get? acc' = none := h1
          rw [h1'] at this
          cases this
end
end EvS


/-! Ev: sum, max, min of a list. -/
namespace Ev
open PySem PySem.Spec PyProof.Rows L2
theorem objOk_get {P : Program} {w : World} {H : Hp} {h : Heap} {a : Addr} {o : HO} (x : ObjOk P w H h a o) : ∃ ob, h.get? a = some ob := by
  cases o with
  | lst xs => obtain ⟨_, _, _, _, e⟩ := x; exact ⟨_, e⟩
  | tup xs => obtain ⟨_, _, _, ob, e, _⟩ := x; exact ⟨_, e⟩
  | dK kvs => obtain ⟨_, _, _, _, o, _, _, e, _⟩ := x; exact ⟨_, e⟩
  | dT kvs => obtain ⟨_, _, _, _, o, _, _, e, _⟩ := x; exact ⟨_, e⟩
  | set S n => obtain ⟨o, _, _, _, e, _⟩ := x; exact ⟨_, e⟩
  | ins C dx fs => obtain ⟨_, _, _, e, _⟩ := x; exact ⟨_, e⟩
  | own y => obtain ⟨_, e⟩ := x; exact ⟨_, e⟩
  | xd fs => obtain ⟨_, ⟨_, _, _, e, _⟩, _⟩ := x; exact ⟨_, e⟩
  | rng lo hi => obtain ⟨_, _, _, e⟩ := x; exact ⟨_, e⟩
  | frz ob u => obtain ⟨e, _⟩ := x; exact ⟨_, e⟩
  | tbl ps => exact ⟨_, (show h.get? a = some _ from x)⟩
  | met f y => exact ⟨_, (show h.get? a = some _ from x)⟩
  | ext φ => obtain ⟨_, ⟨_, e⟩, _⟩ := x; exact ⟨_, e⟩
def listsOf (S : Store) : List PV → Option (List (List PV))
  | [] => some []
  | .loc k :: r => match S[k]? with
    | some (.lst ys) => match listsOf S r with
      | some l => some (ys :: l)
      | none => none
    | _ => none
  | _ => none
def intsOf : List PV → Option (List Int)
  | [] => some []
  | .int i :: r => match intsOf r with
    | some l => some (i :: l)
    | none => none
  | _ => none
theorem intsOf_vals {K : PySem.W.Frag} {μ : List Addr} {H : Hp} : ∀ {xs : List PV} {vs : List V} {ns : List Int}, Rps K μ H xs vs → intsOf xs = some ns → vs = ns.map V.int
  | _, _, _, .nil, e => by cases e; rfl
  | x :: xs, _, _, .cons h r, e => by
    unfold intsOf at e
    split at e
    · rename_i e0; cases e0
    · rename_i i r' e0
      cases e0
      split at e
      · rename_i l e2
        cases e
        cases h
        rw [intsOf_vals r e2]
        rfl
      · cases e
    · cases e
def sumP : AOp
  | [.loc l], S => match S[l]? with
    | some (.lst xs) => match intsOf xs with
      | some ns => some (.int ns.sum, S)
      | none => none
    | _ => none
  | [.loc l, .loc z], S => match S[l]?, S[z]? with
    | some (.lst xs), some (.lst zs) => match listsOf S xs with
      | some ys => if zs.length + ys.flatten.length ≤ LINE then if xs.isEmpty then some (.loc z, S) else some (.loc S.length, S ++ [.lst (zs ++ ys.flatten)]) else none
      | none => none
    | _, _ => none
  | _, _ => none
theorem catL_get (z : List Value) (Ls : List (List Value)) : ∀ n, n ≤ Ls.length → EvS.catL z (fun i => Ls.getD i []) n = z ++ (Ls.take n).flatten
  | 0, _ => by simp [EvS.catL]
  | n + 1, h => by
    show EvS.catL z (fun i => Ls.getD i []) n ++ Ls.getD n [] = _
    rw [catL_get z Ls n (by omega), List.take_succ, List.flatten_append, List.getD_eq_getElem?_getD, List.getElem?_eq_getElem (by omega)]
    simp
section
variable {X : Cx} {g : G}
theorem lists_at {pins : List (Addr × Obj)} {s : Shared} {σ : St} {μ : List Addr} {S : Store} {H : Hp} (I : Inv X pins σ H s) (rs : RS g μ S H) : ∀ {xs : List PV} {vx : List V} {ys : List (List PV)} {its : List Value}, Rps g.K μ H xs vx → Vals vx its → listsOf S xs = some ys →
    ∃ (Ls : List (List Value)) (ws : List V), Ls.length = xs.length ∧ (∀ i v, its[i]? = some v → ∃ a k, v = .ref a ∧ IsL s.heap a (Ls.getD i []).toArray k) ∧ Rps g.K μ H ys.flatten ws ∧ Vals ws Ls.flatten
  | [], _, _, _, .nil, rv, e => by
    cases e
    cases rv
    exact ⟨[], [], rfl, fun i v h => by simp at h, .nil, .nil⟩
  | x :: xs, _, _, _, .cons h r, rv, e => by
    cases rv with
    | cons rv1 rv2 =>
      unfold listsOf at e
      split at e
      · rename_i e0; cases e0
      · rename_i k r' e0
        cases e0
        split at e
        · rename_i yk e1
          split at e
          · rename_i l e2
            cases e
            obtain ⟨Ls, ws, h1, h2, h3, h4⟩ := lists_at I rs r rv2 e2
            cases h with
            | loc hm =>
              obtain ⟨wk, q1, rk⟩ := rs.lst hm e1
              obtain ⟨_, itk, nk, vk, _, hk⟩ := I.lstM q1
              cases rv1
              refine ⟨itk :: Ls, wk ++ ws, by rw [List.length_cons, List.length_cons, h1], fun i v hi => ?_, by rw [List.flatten_cons]; exact rk.append h3, by rw [List.flatten_cons]; exact vk.append h4⟩
              cases i with
              | zero =>
                simp at hi
                subst hi
                exact ⟨_, _, rfl, hk⟩
              | succ i => exact h2 i v (by simpa using hi)
          · cases e
        · cases e
      · cases e
theorem callSum (hc : X.calm = true) : CallR X (.builtin "sum") (rVs g sumP) := by
  intro pins s σ H xs us Q I r h
  obtain ⟨μ, vs, S, z, S', rs, rv, e, k⟩ := h
  unfold sumP at e
  split at e
  · split at e
    · rename_i xs1 e1
      split at e
      · rename_i ns e2
        cases e
        obtain ⟨x, rfl, rx⟩ := rv.one
        cases rx with
        | loc h1 =>
          obtain ⟨ws, q1, r1⟩ := rs.lst h1 e1
          have hv := intsOf_vals r1 e2
          subst hv
          exact cr_sum hc pins s σ H _ us Q I r ⟨_, ns, rfl, .inl (.inl q1), k μ _ H .refl .refl rs (.int _)⟩
      · cases e
    · cases e
  · split at e
    · rename_i xs1 zs1 e1 e2
      split at e
      · rename_i ys e3
        split at e
        · rename_i hle
          obtain ⟨x, y, rfl, rx, ry⟩ := rv.two
          cases rx with
          | loc h1 =>
            cases ry with
            | loc h2 =>
              obtain ⟨vx, q1, r1⟩ := rs.lst h1 e1
              obtain ⟨vz, q2, r2⟩ := rs.lst h2 e2
              obtain ⟨_, itx, nx, vvx, lx, hx⟩ := I.lstM q1
              obtain ⟨_, itz, nz, vvz, lz, hz⟩ := I.lstM q2
              obtain ⟨Ls, ws, g1, g2, g3, g4⟩ := lists_at I rs r1 vvx e3
              obtain ⟨u1, u2, rfl, ru1, ru2⟩ := vals2 r
              cases ru1
              cases ru2
              have hsz : itx.toArray.size = Ls.length := by rw [List.size_toArray, g1, r1.length, lx]
              have hcat : EvS.catL itz (fun i => Ls.getD i []) itx.toArray.size = itz ++ Ls.flatten := by
                rw [hsz, catL_get itz Ls Ls.length (Nat.le_refl _), List.take_length]
              have hlen : (itz ++ Ls.flatten).length ≤ sizeLine := by
                rw [List.length_append, ← lz, ← r2.length, ← g4.length, ← g3.length, line_eq]
                exact hle
              refine EvS.call_sum_lists (I.ok.hd hc) ⟨_, hx, rfl, nx, rfl⟩ hz (fun i => Ls.getD i []) (fun i v hi => g2 i v (by simpa using hi)) (by rw [hcat]; exact hlen) fun h' tk acc' ca' hk hL hor => ?_
              rw [hcat] at hL
              have fin : s.heap.get? acc' = none → z = .loc S.length → S' = S ++ [.lst (zs1 ++ ys.flatten)] → EP X pins σ Q (.ref acc') { s with heap := h', toks := tk } := fun hn ez eS => by
                have hH : H acc' = none := by
                  cases eH : H acc' with
                  | none => rfl
                  | some o =>
                    obtain ⟨ob, eo⟩ := objOk_get (I.hok acc' o eH)
                    rw [hn] at eo; cases eo
                have I' := I.laidN (o := .lst (vz ++ ws)) (t' := tk) hk hn hH (show ObjOk X.prog X.w _ _ _ (.lst (vz ++ ws)) from ⟨by rw [List.length_append, ← r2.length, ← g3.length, line_eq]; exact hle, _, _, vvz.append g4, hL⟩)
                subst ez eS
                exact ⟨.ref acc', _, I', rfl, k _ _ _ ⟨[acc'], rfl⟩ (.upd (.none hH)) (rs.newL hH (r2.append g3)) (Rp.atEnd rs acc' _)⟩
              split at e
              · rename_i hemp
                cases e
                have hx0 : xs1 = [] := List.isEmpty_iff.mp hemp
                rcases hor with ⟨rfl, hn0⟩ | ⟨hn0, hn⟩
                · exact ⟨.ref _, H, I.kept hk, rfl, k μ _ H .refl .refl rs (.loc h2)⟩
                · exfalso
                  rw [hsz, g1, hx0] at hn0
                  exact Nat.lt_irrefl _ hn0
              · rename_i hemp
                cases e
                rcases hor with ⟨rfl, hn0⟩ | ⟨_, hn⟩
                · exfalso
                  rw [hsz, g1] at hn0
                  exact hemp (by rw [List.length_eq_zero_iff.mp hn0]; rfl)
                · exact fin hn rfl rfl
        · cases e
      · cases e
    · cases e
  · cases e
/-- max, min of two ints or of a list of ints -/
def maxL : List Int → Int
  | [] => 0
  | [i] => i
  | i :: r => max i (maxL r)
def minL : List Int → Int
  | [] => 0
  | [i] => i
  | i :: r => min i (minL r)
theorem maxL_is : ∀ {ns : List Int} {m : Int}, m ∈ ns → (∀ y ∈ ns, y ≤ m) → m = maxL ns
  | [i], m, h, _ => List.mem_singleton.mp h
  | i :: j :: r, m, h, hm => by
    show m = max i (maxL (j :: r))
    have hi := hm i (by simp)
    have hge : ∀ y ∈ (j :: r), y ≤ m := fun y hy => hm y (List.mem_cons_of_mem _ hy)
    have hle : maxL (j :: r) ≤ m := by
      have : ∀ (l : List Int), l ≠ [] → maxL l ∈ l := by
        intro l
        induction l with
        | nil => intro h; exact absurd rfl h
        | cons a l ih =>
          intro _
          cases l with
          | nil => exact List.mem_singleton.mpr rfl
          | cons b l =>
            have := ih (by simp)
            show max a (maxL (b :: l)) ∈ _
            rcases Int.le_total a (maxL (b :: l)) with q | q
            · rw [Int.max_eq_right q]; exact List.mem_cons_of_mem _ this
            · rw [Int.max_eq_left q]; simp
      exact hge _ (this _ (by simp))
    rcases List.mem_cons.mp h with rfl | h
    · omega
    · rw [maxL_is h hge] at hi ⊢; omega
theorem minL_is : ∀ {ns : List Int} {m : Int}, m ∈ ns → (∀ y ∈ ns, m ≤ y) → m = minL ns
  | [i], m, h, _ => List.mem_singleton.mp h
  | i :: j :: r, m, h, hm => by
    show m = min i (minL (j :: r))
    have hi := hm i (by simp)
    have hge : ∀ y ∈ (j :: r), m ≤ y := fun y hy => hm y (List.mem_cons_of_mem _ hy)
    have hle : m ≤ minL (j :: r) := by
      have : ∀ (l : List Int), l ≠ [] → minL l ∈ l := by
        intro l
        induction l with
        | nil => intro h; exact absurd rfl h
        | cons a l ih =>
          intro _
          cases l with
          | nil => exact List.mem_singleton.mpr rfl
          | cons b l =>
            have := ih (by simp)
            show min a (minL (b :: l)) ∈ _
            rcases Int.le_total a (minL (b :: l)) with q | q
            · rw [Int.min_eq_left q]; simp
            · rw [Int.min_eq_right q]; exact List.mem_cons_of_mem _ this
      exact hge _ (this _ (by simp))
    rcases List.mem_cons.mp h with rfl | h
    · omega
    · rw [minL_is h hge] at hi ⊢; omega
def maxP2 : AOp
  | [.int i, .int j], S => some (.int (if j > i then j else i), S)
  | [.loc l], S => match S[l]? with
    | some (.lst xs) => match intsOf xs with
      | some ns => if ns.isEmpty then none else some (.int (maxL ns), S)
      | none => none
    | _ => none
  | _, _ => none
def minP2 : AOp
  | [.int i, .int j], S => some (.int (if j < i then j else i), S)
  | [.loc l], S => match S[l]? with
    | some (.lst xs) => match intsOf xs with
      | some ns => if ns.isEmpty then none else some (.int (minL ns), S)
      | none => none
    | _ => none
  | _, _ => none
theorem callMax2 (hc : X.calm = true) : CallR X (.builtin "max") (rVs g maxP2) := by
  intro pins s σ H xs us Q I r h
  obtain ⟨μ, vs, S, z, S', rs, rv, e, k⟩ := h
  unfold maxP2 at e
  split at e
  · cases e
    obtain ⟨x, y, rfl, rx, ry⟩ := rv.two
    cases rx; cases ry
    exact call_max2 hc pins s σ H _ us Q I r ⟨_, _, rfl, k μ _ H .refl .refl rs (.int _)⟩
  · split at e
    · rename_i xs1 e1
      split at e
      · rename_i ns e2
        split at e
        · cases e
        · rename_i hne
          cases e
          obtain ⟨x, rfl, rx⟩ := rv.one
          cases rx with
          | loc h1 =>
            obtain ⟨ws, q1, r1⟩ := rs.lst h1 e1
            have hv := intsOf_vals r1 e2
            subst hv
            refine cr_max hc pins s σ H _ us Q I r ⟨_, ns, rfl, .inl (.inl q1), ?_, fun m h1 h2 => ?_⟩
            · cases ns with
              | nil => exact absurd rfl hne
              | cons => simp
            · rw [maxL_is h1 h2]
              exact k μ _ H .refl .refl rs (.int _)
      · cases e
    · cases e
  · cases e
theorem callMin2 (hc : X.calm = true) : CallR X (.builtin "min") (rVs g minP2) := by
  intro pins s σ H xs us Q I r h
  obtain ⟨μ, vs, S, z, S', rs, rv, e, k⟩ := h
  unfold minP2 at e
  split at e
  · cases e
    obtain ⟨x, y, rfl, rx, ry⟩ := rv.two
    cases rx; cases ry
    exact call_min2 hc pins s σ H _ us Q I r ⟨_, _, rfl, k μ _ H .refl .refl rs (.int _)⟩
  · split at e
    · rename_i xs1 e1
      split at e
      · rename_i ns e2
        split at e
        · cases e
        · rename_i hne
          cases e
          obtain ⟨x, rfl, rx⟩ := rv.one
          cases rx with
          | loc h1 =>
            obtain ⟨ws, q1, r1⟩ := rs.lst h1 e1
            have hv := intsOf_vals r1 e2
            subst hv
            refine cr_min hc pins s σ H _ us Q I r ⟨_, ns, rfl, .inl (.inl q1), ?_, fun m h1 h2 => ?_⟩
            · cases ns with
              | nil => exact absurd rfl hne
              | cons => simp
            · rw [minL_is h1 h2]
              exact k μ _ H .refl .refl rs (.int _)
      · cases e
    · cases e
  · cases e
end
end Ev


/-! Ev: any(..), d.get(..), k in d, {k: v}, d[k] op= v. -/
namespace Ev
open PySem PySem.Spec PyProof.Rows L2
section
variable {X : Cx} {g : G} {W : WX} {scope : Scope} {x y : Str} {px py pc p3 : Pos} {j : Nat} {items : List (List Nat)}
/-- x not in 'k' -/
theorem elq_notinC (k : List Nat) (hk : scope.kind = .function) (hl : scope.names.lookup x = some .local) (h1 : ∀ a ∈ items, ∃ c, a = [c]) {z : Str} (hz : z = ⟨k.toArray⟩ := by decide +kernel) (hd : (x == ("__debug__" : Str)) = false := by decide) :
    ElQ X scope x (.Compare (.Name x px) [.NotIn] [.Constant (.str z) j pc] p3) (Pz items) fun i v => ∃ c, items[i]? = some [c] ∧ v = .bool (!decide (c ∈ k)) := by
  subst hz
  intro cenv A' E' i v s₂ m₂ hs hg hp hn hm hG
  obtain ⟨a, t, ha, rfl⟩ := hp
  obtain ⟨c, rfl⟩ := h1 a (List.mem_of_getElem? ha)
  refine wpAny_Compare1 ?_ (by first | rfl | exact nomark _)
  refine wpAny_Name (wpAny_loadName_local (by rw [hs]; exact hk) (show cenv.scope.names.lookup x = some .local by rw [hs]; exact hl) hn hm ?_) hd
  apply Calls.Constant_str
  refine PyProof.Rows.notIn_str ?_
  refine ⟨⟨c, ha, ?_⟩, GxR.keeps_tok _ _⟩
  have := PySem.StrLaws.found_one (⟨k.toArray⟩ : Str) c
  rw [scps] at this
  exact congrArg (fun b => Value.bool (!b)) this
end
section
variable {X : Cx} {pins : List (Addr × Obj)} {σ : St} {H : Hp} {s : Shared} {g : G} {W : WX} {c P : Addr} {elt iter : Expr} {x : Str} {px p pos gpos : Pos} {scope : Scope} {k : Nat}
def eAnyS (fi : EF) (p : Nat → Bool) : EF := fun ρ S => (fi ρ S).bind fun v S1 => match v with
  | .str s => .ok (.bl (s.any p)) S1
  | _ => .bad
theorem se_anyS {fi : EF} {p : Nat → Bool} {pn : Pos} (hK : X.K = g.K) (hr : Room k X.A) (hg : Gl X "any") (hm : X.mg "any" = none) (hb : bootBuiltins "any" = some (.builtin "any")) (TB : GxR.TabB X.base X.mg c P) (hT : (P, none) ∈ g.T) (huT : ∀ p ∈ g.T, p.1 = P → p.2 = none) (hcode : X.env.code = .ref c) (S : GxR.GenS X.env scope x)
    (hi : SE X g W iter fi) (hel : EQb X scope x elt p) (hs : ∀ v, genFold iter X.env v = pure v)
    (he : starEach [.GeneratorExp elt [⟨.Name x px, iter, [], 0⟩] scope gpos] X.env = (false, eval (.GeneratorExp elt [⟨.Name x px, iter, [], 0⟩] scope gpos) X.env) :: starEach [] X.env := by rfl) :
    SE X g W (.Call (.Name "any" pn) [.GeneratorExp elt [⟨.Name x px, iter, [], 0⟩] scope gpos] [] pos) (eAnyS fi p) := by
  constructor
  intro pins s σ H Q I h
  refine wpAny_Call_Name_kw (ld_blt I hg hm hb ?_)
  refine PyProof.Rows.callWith_builtin1 ?_ he (by rfl)
  rw [he]
  show wpAny _ _ (spliced ((false, eval (.GeneratorExp elt [⟨.Name x px, iter, [], 0⟩] scope gpos) X.env) :: backTo pos (starEach [] X.env))) _ _ s
  apply Calls.spliced_cons
  refine gen_arg hK hr TB hT huT hcode S hi hs I ?_
  obtain ⟨μ, ρ, S0, re, rs, p0⟩ := h
  refine ⟨μ, ρ, S0, re, rs, (Post.bind (r := fi ρ S0) p0).imp fun y H1 ⟨μ1, v, S1, p1, l1, rs1, rv, q⟩ => ?_⟩
  split at q
  · rename_i z
    refine ⟨μ1, _, S1, z.map (fun c => [c]), _, rs1, rv, rfl, hel _ ?_, ?_⟩
    · intro a ha
      obtain ⟨cc, _, e⟩ := List.mem_map.mp ha
      exact ⟨cc, e.symm⟩
    · rintro g' s5 ⟨fp, wr, Gg, F', St, Wk, hF, hst, _, _, _, hI⟩
      apply Calls.spliced_nil
      refine call_any_walkS (Wk.in4_1.self 0 _ _ _ hst ⟨g', fp, wr, Gg, _, F', St, GxR.trF p z, rfl, Wk.in4_1, hst, ?_, fun s' hmv => ?_⟩)
      · intro jj yv sj Qj Ej hy hQj
        obtain ⟨cc, hcc, rfl⟩ := hF jj yv hy
        rw [List.getElem?_map] at hcc
        have e9 : z[jj]? = some cc := by
          cases ez : z[jj]? with
          | none => rw [ez] at hcc; cases hcc
          | some d => rw [ez] at hcc; cases hcc; rfl
        have hQ2 : Qj (GxR.trF p z jj) sj := hQj
        rw [GxR.trF_some e9] at hQ2
        exact wpAny_truthy_bool hQ2
      · obtain ⟨H2, hTb, J⟩ := hI s' hmv
        refine ⟨.bl _, H2, J, rfl, ?_⟩
        rw [List.length_map, GxR.any_trF]
        have tG : GxR.TabG H1 P := rs1.tabs _ hT
        exact q μ1 _ H2 .refl (.tab tG hTb) (rs1.tab tG huT hTb) (.bl _)
  · exact q.elim
end
section
variable {X : Cx} {g : G} {W : WX} {pos cpos apos tpos : Pos} {a b o e e2 i value : Expr} {fa fb fo fe ff fi fv : EF}
/-! ### d.get(k, x) -/
def eGet2 (fo fe ff : EF) : EF := fun ρ S => (fo ρ S).bind fun v S1 => match tyP S1 v with
  | some "dict" => (fe ρ S1).bind fun i S2 => (ff ρ S2).bind fun d S3 => match v with
    | .loc l => match S3[l]? with
      | some (.dic kvs) => if keyP i then .ok ((valP kvs i).getD d) S3 else .bad
      | _ => .bad
    | _ => .bad
  | _ => .bad
theorem dic_ty {S : Store} {v : PV} (h : tyP S v = some "dict") : ∃ l kvs, v = .loc l ∧ S[l]? = some (.dic kvs) := by
  unfold tyP at h
  split at h
  · exact absurd h (by decide)
  · exact absurd h (by decide)
  · exact absurd h (by decide)
  · exact absurd h (by decide)
  · exact absurd h (by decide)
  · rename_i l
    split at h
    · exact absurd h (by decide)
    · rename_i kvs e; exact ⟨l, kvs, rfl, e⟩
    · cases h
theorem se_get2 (hu : X.A.units + 1 < cLine) (ho : SE X g W o fo) (he : SE X g W e fe) (hf : SE X g W e2 ff) (m : M2 X o "get" apos e e2 cpos := by exact ⟨rfl, rfl, rfl, rfl⟩) : SE X g W (.Call (.Attribute o "get" apos) [e, e2] [] cpos) (eGet2 fo fe ff) :=
  PEimp (pe_dget2 hu ho he hf m) fun σ H Q ⟨μ, ρ, S, re, rs, p⟩ => by
    refine ⟨μ, ρ, S, re, rs, (Post.bind (r := fo ρ S) p).imp fun x H1 ⟨μ1, v, S1, p1, l1, rs1, rv, q⟩ => ?_⟩
    split at q
    · rename_i ety
      obtain ⟨l, kvs0, rfl, e0⟩ := dic_ty ety
      cases rv with
      | loc h1 =>
        obtain ⟨ks0, q0, rr0⟩ := rs1.dic h1 e0
        refine ⟨_, rfl, .inl ⟨ks0, .inl q0⟩, μ1, ρ, S1, re.mono p1 l1, rs1, (Post.bind q).imp fun y H2 ⟨μ2, iv, S2, p2, l2, rs2, ri, q2⟩ => ?_⟩
        refine ⟨μ2, ρ, S2, (re.mono p1 l1).mono p2 l2, rs2, (Post.bind q2).imp fun z H3 ⟨μ3, dv, S3, p3, l3, rs3, rd, q3⟩ => ?_⟩
        simp only at q3
        split at q3
        · rename_i kvs e3
          split at q3
          · rename_i hk
            have h3 := p3.get (p2.get h1)
            obtain ⟨ks, q4, rr⟩ := rs3.dic h3 e3
            obtain ⟨yk, rk, rfl⟩ := Rk.of ri hk
            refine ⟨_, DGet.k q4, ?_⟩
            have hv := Rkv.val rk rr
            cases ev : valP kvs iv with
            | none =>
              rw [ev] at q3
              rw [hv.2 ev]
              exact Post.here q3 rs3 rd
            | some w =>
              rw [ev] at q3
              obtain ⟨xv, e5, rx⟩ := hv.1 w ev
              rw [e5]
              exact Post.here q3 rs3 rx
          · exact q3.elim
        · exact q3.elim
    · exact q.elim
/-! ### k in d -/
theorem se_din (hu : X.A.units + 1 < cLine) (ha : SE X g W a fa) (hb : SE X g W b fb) (hm : behindInMarks .In b = false := by first | exact nomark _ | rfl) : SE X g W (.Compare a [.In] [b] pos) (eBin (dinP false) fa fb) :=
  PEimp (pe_cmp (pc_din hu ha hb) hm) fun σ H Q h => two h fun μ v w S x y H2 rs rv rw' q => by
    obtain ⟨z, S', e, k⟩ := Post.ofO q
    unfold dinP at e
    split at e
    · split at e
      · rename_i kvs e1
        split at e
        · rename_i hk
          cases e
          cases rw' with
          | loc h1 =>
            obtain ⟨ks, q1, rr⟩ := rs.dic h1 e1
            obtain ⟨yk, rk, rfl⟩ := Rk.of rv hk
            refine ⟨_, _, rfl, DGet.k q1, ?_⟩
            rw [has_some rk rr]
            exact k μ _ H2 .refl .refl rs (.bl _)
        · cases e
      · cases e
    · cases e
theorem se_dnotin (hu : X.A.units + 1 < cLine) (ha : SE X g W a fa) (hb : SE X g W b fb) (hm : behindInMarks .NotIn b = false := by first | exact nomark _ | rfl) : SE X g W (.Compare a [.NotIn] [b] pos) (eBin (dinP true) fa fb) :=
  PEimp (pe_cmp (pc_dnotin hu ha hb) hm) fun σ H Q h => two h fun μ v w S x y H2 rs rv rw' q => by
    obtain ⟨z, S', e, k⟩ := Post.ofO q
    unfold dinP at e
    split at e
    · split at e
      · rename_i kvs e1
        split at e
        · rename_i hk
          cases e
          cases rw' with
          | loc h1 =>
            obtain ⟨ks, q1, rr⟩ := rs.dic h1 e1
            obtain ⟨yk, rk, rfl⟩ := Rk.of rv hk
            refine ⟨_, _, rfl, DGet.k q1, ?_⟩
            rw [has_some rk rr]
            exact k μ _ H2 .refl .refl rs (.bl _)
        · cases e
      · cases e
    · cases e
/-! ### d[k] op= v -/
def sDaug (fo fi fv : EF) (op : BOp) : SF := fun ρ S => bindE (fo ρ S) ρ fun v S1 => bindE (fi ρ S1) ρ fun k S2 => match dixP v k S2 with
  | some (w, S3) => bindE (fv ρ S3) ρ fun u S4 => match op w u S4 with
    | some (z, S5) => match v with
      | .loc l => match S5[l]? with
        | some (.dic kvs) => if keyP k ∧ kvs.length < LINE then .ok (.nx ρ) (S5.set l (.dic (putP kvs k z))) else .bad
        | _ => .bad
      | _ => .bad
    | none => .bad
  | none => .bad
theorem ss_daug {op : Operator} {f : BOp} (hu : X.A.units + 1 < cLine) (ho : SE X g W o fo) (hi : SE X g W i fi) (hv : SE X g W value fv) (hop : OpR X (inplaceOp op) (rV2 g f))
    (ha : ∀ ov iv new, augStore i ov iv new = (do holding [new, ov, iv] (setItem ov iv new); release [new, ov, iv] []; pure .next) := by intros; rfl) : SS X g W (.AugAssign (.Subscript o i tpos) op value pos) (sDaug fo fi fv f) :=
  PSimp (ps_daug hu ho hi hv hop ha) fun D σ H ⟨μ, ρ, S, re, rs, p⟩ => by
    refine ⟨μ, ρ, S, re, rs, (PostS.bindE (r := fo ρ S) p re).imp fun x H1 ⟨μ1, v, S1, p1, l1, rs1, rv, q⟩ => ?_⟩
    refine ⟨μ1, ρ, S1, re.mono p1 l1, rs1, (PostS.bindE q (re.mono p1 l1)).imp fun y H2 ⟨μ2, kv, S2, p2, l2, rs2, rk, q2⟩ => ?_⟩
    have re2 := (re.mono p1 l1).mono p2 l2
    split at q2
    · rename_i w S3 ed
      unfold dixP at ed
      split at ed
      · rename_i l
        split at ed
        · rename_i kvs e1
          split at ed
          · rename_i hk
            split at ed
            · rename_i z' e2
              cases ed
              cases rv with
              | loc h1 =>
                have h2 := p2.get h1
                obtain ⟨ks, q1, rr⟩ := rs2.dic h2 e1
                obtain ⟨yk, rkk, rfl⟩ := Rk.of rk hk
                obtain ⟨xv, e3, rx⟩ := (Rkv.val rkk rr).1 _ e2
                refine ⟨_, xv, rfl, e3 ▸ DGet.k q1, μ2, ρ, _, re2, rs2, (PostS.bindE q2 re2).imp fun u0 H3 ⟨μ3, u, S4, p3, l3, rs3, ru, q3⟩ => ?_⟩
                split at q3
                · rename_i z S5 eo
                  refine ⟨μ3, _, u, S4, z, S5, rs3, rx.mono p3 l3, ru, eo, fun μ4 z4 H4 p4 l4 rs4 rz => ?_⟩
                  simp only at q3
                  · split at q3
                    · rename_i kvs5 e5
                      split at q3
                      · rename_i hc
                        have h4 := p4.get (p3.get h2)
                        obtain ⟨ks5, q5, rr5⟩ := rs4.dic h4 e5
                        refine ⟨_, DPut.k q5 (by rw [← rr5.length, line_eq]; exact hc.2), ?_⟩
                        have wq := Wr.dK q5
                        exact q3 μ4 _ _ p4 (l4.trans (.upd wq)) (rs4.put (so := .dic (putP kvs5 kv z)) h4 e5 rfl rfl ⟨_, upd_same, (rr5.put rkk rz).mono .refl (.upd wq)⟩) ((re2.mono p3 l3).mono p4 (l4.trans (.upd wq)))
                      · exact q3.elim
                    · exact q3.elim
                · exact q3.elim
            · cases ed
          · cases ed
        · cases ed
      · cases ed
    · exact q2.elim
end
end Ev


/-! Ev: told(lambda: ..), the lambda's names captured. -/
namespace Ev
open PySem PySem.Spec PyProof.Rows L2
section
variable {X : Cx} {pins : List (Addr × Obj)} {σ : L2.St} {H : Hp} {s : Shared} {g : G} {W : WX} {pos : Pos}
/-- the lambda made, not tracked itself -/
theorem lam_made3 {c P : Addr} {q : Str} {params : Arguments} {body : Expr} {scope : Scope} {E : Value → Shared → Prop} {Q : Value → Shared → Prop} (I : Inv X pins σ H s) (TB : LamX.TabB X.base X.mg c P) (hcode : X.env.code = .ref c)
    (hq : q = X.env.qual ++ "<lambda>") (tS : LamX.TabS H P q) (hdef : defaultsOf params X.env = ([], [])) (hfree : ∀ y ∈ scope.names, y.2 = .free → ∃ c, X.env.cells.lookup y.1 = some c)
    (h : ∀ (f c' : Addr) (pm ctv : Value) (H1 : Hp) (s' : Shared), Inv X pins σ H1 s' → (∀ b o, b ≠ P → H b = some o → H1 b = some o) → LamX.TabS H1 P q →
      s'.heap.get? f = some (PySem.W.kla_obj "<lambda>" (X.env.qual ++ "<lambda>") params body scope (cloFrom X.env.cells scope.names []) pm c' ctv) → H1 f = none → f ∉ frs X.stack → H1 c' = some (LamX.CodeO c' q) → Q (.ref f) s') :
    wpAny (model X.prog X.w) X.A (eval (.Lambda params body scope pos) X.env) Q E s := by
  obtain ⟨ps, hP, ht, ha⟩ := tS
  refine PySem.W.kla_eval hdef ?_
  have bP : s.heap.BuiltinsAt X.mg P := TB.bm.keeps I.bk
  have atP : s.heap.get? P = some { cls := .none, data := .fields ps } := I.hok P _ hP
  have nofr : ∀ f, s.heap.objs.size ≤ f → f ∉ frs X.stack := fun f hf z => by
    rcases List.mem_cons.mp (I.stkSub _ z) with e | e
    · have h1 := I.lt
      rw [← e] at h1
      exact Nat.lt_irrefl _ (Nat.lt_of_lt_of_le h1 hf)
    · exact I.nofs hf e
  cases hc : codeAmong pos ps.toList with
  | none =>
    refine PySem.W.kla_makeFunction (mg := X.mg) (c := c) (P := P) (ps := ps) (closure_ok hfree) I.ok.glob (I.mod.glob.keeps I.bk) hcode (TB.code.keeps I.bk) atP ht hc TB.gP bP fun c' ctv h' tk hx hge hlt hrec htb => ?_
    obtain ⟨c2, oc, vs, t9, e2, hoc, hd, hv⟩ := hrec
    cases e2
    have hsz : s.heap.objs.size ≤ h'.objs.size := Nat.le_trans hge (Nat.le_of_lt hlt)
    have nC : H c' = none := I.hok.fresh hge
    have hv' : vs[1]? = some (.str q t9) := by rw [hq]; exact hv
    have I1 := LamX.inv_table (q := q) (t' := tk) (more := #[rawInt pos.line, rawInt pos.col, .ref c']) (h' := h'.push (PySem.W.kla_obj "<lambda>" (X.env.qual ++ "<lambda>") params body scope (cloFrom X.env.cells scope.names []) ((X.mg "__name__").getD .none) c' ctv)) I hP
      (fun b o hb e => Heap.get?_push_of_some _ (hx b o hb e)) (Heap.get?_push_of_some _ htb) hge ⟨oc, vs, t9, Heap.get?_push_of_some _ hoc, hd, hv'⟩
    have old : ∀ b o, b ≠ P → H b = some o → upd (upd H P (.tbl (ps ++ #[rawInt pos.line, rawInt pos.col, .ref c']))) c' (LamX.CodeO c' q) b = some o := fun b o hb e => by
      rw [upd_ne (ne_of_none e nC), upd_ne hb]
      exact e
    have nPc : P ≠ c' := ne_of_none hP nC
    have eL : (ps ++ #[rawInt pos.line, rawInt pos.col, .ref c']).toList = ps.toList ++ [rawInt pos.line, rawInt pos.col, .ref c'] := by simp
    refine h h'.objs.size c' ((X.mg "__name__").getD .none) ctv _ _ I1 old ⟨ps ++ #[rawInt pos.line, rawInt pos.col, .ref c'], ?_, ?_, fun p' cv hcv => ?_⟩ (Heap.get?_push_size _ rfl) ?_ (nofr _ hsz) upd_same
    · rw [upd_ne nPc, upd_same]
    · rw [eL]; exact PySem.TriplesOk_snoc _ _ _ _ ht
    · rw [eL] at hcv
      rcases LamX.among_app _ ht hcv with z | z
      · obtain ⟨c0, e1, e2⟩ := ha p' cv z
        refine ⟨c0, e1, old _ _ (fun z => ?_) e2⟩
        rw [z, hP] at e2
        exact LamX.codeO_ne ps (Option.some.inj e2).symm
      · exact ⟨c', z, upd_same⟩
    · have n1 : h'.objs.size ≠ c' := Nat.ne_of_gt hlt
      have n2 : h'.objs.size ≠ P := Nat.ne_of_gt (Nat.lt_of_lt_of_le (Heap.lt_size atP) hsz)
      rw [upd_ne n1, upd_ne n2]
      exact I.hok.fresh hsz
  | some cv =>
    obtain ⟨c', e, hco⟩ := ha pos cv hc
    subst e
    refine PySem.W.kla_makeFunctionHit (mg := X.mg) (c := c) (P := P) (ps := ps) (closure_ok hfree) I.ok.glob (I.mod.glob.keeps I.bk) hcode (TB.code.keeps I.bk) atP ht hc bP fun ctv h' tk hx hsz => ?_
    have I1 : Inv X pins σ H { s with heap := h'.push (PySem.W.kla_obj "<lambda>" (X.env.qual ++ "<lambda>") params body scope (cloFrom X.env.cells scope.names []) ((X.mg "__name__").getD .none) c' ctv), toks := tk } := I.kept fun b o e => Heap.get?_push_of_some _ (hx b o e)
    exact h h'.objs.size c' ((X.mg "__name__").getD .none) ctv H _ I1 (fun b o _ e => e) ⟨ps, hP, ht, ha⟩ (Heap.get?_push_size _ rfl) (I.hok.fresh hsz) (nofr _ hsz) hco
end
/-- the def that tells: try: return a() / except x: return ret -/
structure ToldF (K : PySem.W.Frag) (mg : Str → Option Value) (x a : Str) (st : Stmt) : Prop where
  ex : ∃ (f : Addr) (oc : Value) (od : Option Addr) (dV kV doc pm cdv ct : Value) (an : Option Addr) (osl : Array (Option Value)), mg x = some (.ref f) ∧ PySem.W.keepIn K (.ref f) = true ∧
    K.lookup f = some ⟨oc, od, .func (PySem.W.fnOf x x (defArgs st) (defBody st) (defScope st) dV kV doc pm an cdv ct), osl⟩ ∧ PySem.W.codeIn K cdv x = true ∧ L2.Binds K (PySem.W.fnOf x x (defArgs st) (defBody st) (defScope st) dV kV doc pm an cdv ct) [a] []
theorem ToldF.of {K : PySem.W.Frag} {mg : Str → Option Value} {x a : Str} {st : Stmt} {f : Addr} {fd : FuncData} {cd : Value} (h1 : mg x = some (.ref f)) (h2 : PySem.W.keepIn K (.ref f) = true) (F : FunE K x st f fd cd) (B : L2.Binds K fd [a] []) : ToldF K mg x a st := by
  obtain ⟨oc, od, dV, kV, doc, pm, an, ct, osl, rfl, lk, hcd⟩ := F.ex
  exact ⟨f, oc, od, dV, kV, doc, pm, cd, ct, an, osl, h1, h2, lk, hcd, B⟩
def eTold (fb : EF) (cs : Nat → Option Bool) (ret : List Nat) : EF := fun ρ S => match fb ρ S with
  | .ok v S' => .ok v S'
  | .exc c S' => match cs c with
    | some true => .ok (.str ret) S'
    | _ => .bad
  | .bad => .bad
section
variable {X : Cx} {g : G} {W : WX}
theorem se_told {x a e : Str} {st : Stmt} {c P CS : Addr} {k j : Nat} {Ng : List Str} {params : Arguments} {body : Expr} {scope : Scope} {fb : EF} {cs : Nat → Option Bool} {ret : List Nat} {q : Str} {p lpos pos p1 p2 p3 p4 p5 p6 p7 p8 : Pos}
    (hK : X.K = g.K) (hg : Gl X x) (T : ToldF X.K X.mg x a st) (hst : defBody st = [.Try [.Return (some (.Call (.Name a p1) [] [] p2)) p3] [.ExceptHandler (some (.Name e p4)) none [.Return (some (.Constant (.str ⟨ret.toArray⟩) j p5)) p6] p7] [] [] p8])
    (Sg : FnScope Ng [a] (defScope st)) (hNg : Ng[0]? = some a) (hva : Vis (defScope st) a) (hge : (defScope st).names.lookup e = some .globalImplicit) (hme : X.mg e = some (.ref CS)) (hcat : Cat g X.K (.ref CS) cs)
    (TB : LamX.TabB X.base X.mg c P) (hcode : X.env.code = .ref c) (hq : q = X.env.qual ++ "<lambda>") (hT : (P, some q) ∈ g.T) (hu : ∀ p ∈ g.T, p.1 = P → p.2 = some q) (hr : Room (k + 2) X.A) (L : LamX.LamS X.env.scope scope) (hdef : defaultsOf params X.env = ([], []))
    (hbind : ∀ (q : Str) (cl : List (Str × Addr)) (pm cv ctv : Value), bindArgs (PySem.W.kla_fn "<lambda>" q params body scope cl pm cv ctv) ⟨[], []⟩ = pure [])
    (hbody : ∀ (A : Around) (outer : List Env) (s : Shared) (H : Hp) (E : XK) (f c' : Addr), Room k (A.deeper (LamX.lamEnv X scope s.heap.objs.size f c')) → SE (LamX.lamCx X A outer s H E scope f c') g (fun cls d _ H => E cls d H) body fb)
    (h0 : ∀ f : Addr, (L2.start Ng [V.ref f])[0]? = some (some (V.ref f)) := by intro f; rfl)
    (hdb : (x == ("__debug__" : Str)) = false := by decide) (hd : (a == ("__debug__" : Str)) = false := by decide) (hcd : (a == ("__classdict__" : Str)) = false := by decide) (hde : (e == ("__debug__" : Str)) = false := by decide) :
    SE X g W (.Call (.Name x p) [.Lambda params body scope lpos] [] pos) (eTold fb cs ret) := by
  obtain ⟨f0, oc, od, dV, kV, doc, pm, cdv, ct, an, osl, hm, hk, lk, hcg, hb⟩ := T.ex
  rw [hst] at lk hb
  refine ⟨fun pins s σ H Q I ⟨μ, ρ, S, re, rs, p⟩ => ?_⟩
  have tS : LamX.TabS H P q := rs.tabs _ hT
  obtain ⟨ps, hP, _⟩ := id tS
  refine wpAny_Call_Name_kw (ld_glob I hg hm ?_ hdb)
  refine PySem.W.callWith_K (h₀ := X.base) I.ok.mod.kin hk ?_ (by rfl) (by rfl)
  show wpAny _ _ (spliced ((false, eval (.Lambda params body scope lpos) X.env) :: backTo pos (starEach [] X.env))) _ _ s
  refine Calls.spliced_cons (lam_made3 I TB hcode hq tS hdef (L.has I.ok) fun f c' pm' ctv H1 s' I1 old t1 hf hfn hfr hco => ?_)
  refine Calls.spliced_nil ⟨I1.kIn, ?_⟩
  subst hq
  have hG := LamX.told_gives (X := X) (Ng := Ng) (x := x) (a := a) (e := e) (q := X.env.qual ++ "<lambda>") (ret := ⟨ret.toArray⟩) (sg := defScope st) (g := f0) (CS := CS) (cdg := cdv) (j := j) (p1 := p1) (p2 := p2) (p3 := p3) (p4 := p4) (p5 := p5) (p6 := p6) (p7 := p7) (p8 := p8) hge hme hde h0
  have rs1 : RS g μ S H1 := rs.but hP hu old t1
  have l1 : Le g.K H H1 := .but hP old
  have hTT : LamX.TTold X.K CS ⟨ret.toArray⟩ (fun E H' Q' => tEv g (fun cls d _ H => E cls d H) fb σ H' Q') H1 Q := by
    refine ⟨μ, ρ, S, re.mono .refl l1, rs1, ?_⟩
    unfold eTold at p
    cases er : fb ρ S with
    | bad => rw [er] at p; exact p.elim
    | ok v S' => rw [er] at p; exact fun μ' x' H' hp hl rs' rx' => p μ' x' H' hp (l1.trans hl) rs' rx'
    | exc n S' =>
      rw [er] at p
      simp only at p
      split at p
      · rename_i hcs
        intro μ' H' hp hl rs'
        exact ⟨true, hcat n true hcs, fun _ => p μ' _ H' hp (l1.trans hl) rs' (.str ret), fun z => by cases z⟩
      · exact p.elim
  have rc : codeAny (model X.prog X.w) X.A (.call (.ref f0) ⟨[.ref f], []⟩) (CR C8.CX0 X.stack X.prog X.w H1 s' Q C8.E0) s' := by
    refine LamX.run_ofS (N := Ng) (ps := [a]) (us := [.ref f]) (vs := [.ref f]) lk hcg Sg hr I1.env0 (hb s' [.ref f] I1.kIn rfl) (.cons rfl .nil) rfl fun hr' => ?_
    obtain ⟨t', ht', hq'⟩ := hG f c' s' H1 Q (fun E H' Q' => tEv g (fun cls d _ H => E cls d H) fb σ H' Q') (fun W pn xe E p1 p2 tk hW => LamX.pe_act (i := 0) I1 L hf hfn hfr (hbind _ _ _ _ _) tk hW hr' (fun A outer s H hr2 => hbody A outer s H E f c' hr2) hNg hva hd hcd) hco hTT
    exact ⟨t', ht'.nox, hq'⟩
  refine wpAny_call (codeAny_mono rc fun r s2 hq => ?_)
  cases r with
  | error e => exact (show False from hq).elim
  | ok fl =>
    cases fl with
    | ret u => exact I1.after hq
    | next => exact False.elim hq
    | brk => exact False.elim hq
    | cont => exact False.elim hq
theorem lamCx_takes {X : Cx} {A : Around} {outer : List Env} {s : Shared} {H : Hp} {E : XK} {scope : Scope} {f c' : Addr} : Takes (LamX.lamCx X A outer s H E scope f c') (fun cls d _ H => E cls d H) :=
  takes_of (X := LamX.lamCx X A outer s H E scope f c') rfl rfl rfl rfl
end
end Ev
namespace Ev
open PySem PySem.Spec PyProof.Rows L2
/-- an empty tuple, known -/
def emB (K : PySem.W.Frag) (a : Addr) : Bool := match K.lookup a with
  | some ⟨c, _, .seq its _, _⟩ => decide (c = .type "tuple") && its.size == 0
  | _ => false
theorem emB_ok {K : PySem.W.Frag} {a : Addr} (h : emB K a = true) (H : Hp) : SqT K H a [] := by
  unfold emB at h
  split at h
  · rename_i c d its n sl e
    rw [Bool.and_eq_true] at h
    have h1 := of_decide_eq_true h.1
    have h2 : its.size = 0 := eq_of_beq h.2
    refine .inr ⟨_, its, n, e, h1, rfl, by rw [h2]; exact Nat.zero_le _, ?_⟩
    have : its.toList = [] := by simpa using h2
    rw [this]
    exact .nil
  · cases h
end Ev
namespace Ev
open PySem PySem.Spec PyProof.Rows L2
section
variable {X : Cx} {g : G} {W : WX} {pos : Pos} {a b c : Expr}
/-- x, y, z = a, b, c of plain local names -/
def sPar3 (i j l : Nat) (a : AF) : SF := fun ρ S => bindE (a ρ S) ρ fun vs S1 => match vs with
  | [u, v, w] => .ok (.nx (((ρ.set i (some u)).set j (some v)).set l (some w))) S1
  | _ => .bad
theorem ss_par3 {i j l : Nat} {x y z : Str} {fs : AF} {px py pz pt : Pos} {kt k2 pt2} (hc : X.calm = true) (hN : X.N.Nodup) (hi : X.N[i]? = some x) (hj : X.N[j]? = some y) (hl : X.N[l]? = some z) (hij : i ≠ j) (hil : i ≠ l) (hjl : j ≠ l)
    (hx : X.env.scope.names.lookup x = some .local) (hy : X.env.scope.names.lookup y = some .local) (hz : X.env.scope.names.lookup z = some .local) (ha : SA X g W [a, b, c] fs)
    (hw : swappedStores [.Tuple [.Name x px, .Name y py, .Name z pz] kt pt] (.Tuple [a, b, c] k2 pt2) X.env = pure (some [x, y, z]))
    (hs : swapsWithSole [.Tuple [.Name x px, .Name y py, .Name z pz] kt pt] (.Tuple [a, b, c] k2 pt2) pos.line X.env = pure false := by rfl) :
    SS X g W (.Assign [.Tuple [.Name x px, .Name y py, .Name z pz] kt pt] (.Tuple [a, b, c] k2 pt2) pos) (sPar3 i j l fs) :=
  PSimp (ps_par3 hc hN hi hj hl hij hil hjl hx hy hz ha hw hs) fun D σ H h => by
    obtain ⟨μ, ρ, S, re, rs, p⟩ := h
    refine ⟨μ, ρ, S, re, rs, (PostS.bindE p re).imp fun x H1 ⟨μ1, v, S1, hp, hl, rs1, rv, q⟩ => ?_⟩
    split at q
    · cases rv with
      | cons r1 r' => cases r' with
        | cons r2 r' => cases r' with
          | cons r3 r' =>
            cases r'
            exact ⟨_, _, _, rfl, q μ1 _ H1 .refl .refl rs1 ((((re.mono hp hl).set r1 i).set r2 j).set r3 l)⟩
    · exact q.elim
end
end Ev


/-! Ev: tuple(text). -/
namespace Ev
open PySem PySem.Spec PyProof.Rows L2
section
variable {X : Cx} {g : G} {W : WX}
/-- tuple(x): a text too -/
def tupP3 : AOp
  | [.str s], S => if s.length ≤ LINE then some (.tup (s.map fun c => .str [c]), S) else none
  | xs, S => tupP2 xs S
theorem rps_signs {μ : List Addr} {H : Hp} : ∀ (s : List Nat), Rps g.K μ H (s.map fun c => .str [c]) (s.map fun c => V.str ⟨#[c]⟩)
  | [] => .nil
  | c :: s => .cons (.str [c]) (rps_signs s)
theorem callTup3 (hK : X.K = g.K) (hc : X.calm = true) : CallR X (.type "tuple") (rVs g tupP3) := by
  intro pins s σ H xs us Q I r h
  obtain ⟨μ, vs, S, z, S', rs, rv, e, k⟩ := h
  unfold tupP3 at e
  split at e
  · rename_i x
    by_cases hx : x.length ≤ LINE
    · rw [if_pos hx] at e
      cases e
      obtain ⟨v, rfl, rx⟩ := rv.one
      cases rx with
      | str =>
        obtain ⟨u, rfl, ru⟩ := vals1 r
        obtain ⟨t, rfl⟩ : ∃ t, u = Value.str ⟨x.toArray⟩ t := ru
        refine call_tuple_str (I.ok.hd hc) ⟨x.toArray⟩ t (fun h' tk acc hkeep hacc => ?_) (by rw [line_eq]; simpa using hx)
        have I2 : Inv X pins σ H { s with heap := h', toks := tk } := I.kept hkeep
        have hfr : H h'.objs.size = none := I2.hok.fresh (Nat.le_refl _)
        refine ⟨.ref h'.objs.size, upd H h'.objs.size (.tup (x.map fun c => V.str ⟨#[c]⟩)), I2.laid (t' := tk) (fun c o e => Heap.get?_push_of_some _ e) (Nat.le_refl _) (show ObjOk X.prog X.w _ _ _ (.tup (x.map fun c => V.str ⟨#[c]⟩)) from ⟨?_, acc.toList, ?_, ?_⟩), rfl, k μ _ _ .refl (.upd (.none hfr)) (rs.laid hfr) (.newT hfr (rps_signs x))⟩
        · rw [List.length_map, line_eq]; exact hx
        · have el : acc.toList.length = acc.size := by simp
          have ex : (⟨x.toArray⟩ : Str).cps.size = x.length := by simp
          refine vals_of_at (by rw [List.length_map, el, hacc.1, ex]) fun j y w h1 h2 => ?_
          obtain ⟨c, u, hcu, hw⟩ := hacc.2 j w (by rw [← Array.getElem?_toList]; exact h2)
          have hc2 : x[j]? = some c := by simpa using hcu
          rw [List.getElem?_map, hc2] at h1
          cases h1
          exact ⟨u, hw⟩
        · rw [Array.toArray_toList]; exact IsTup.new _ _
    · rw [if_neg hx] at e; cases e
  · exact callTup2 hK hc pins s σ H xs us Q I r ⟨μ, _, S, z, S', rs, rv, e, k⟩
end
end Ev


namespace Ev
open PySem PySem.Spec PyProof.Rows L2
/-! Ev: what every law's mathematics leans on (no law's own evaluators). -/
local macro_rules | `(tactic| walk_at "ev") => `(tactic| (repeat first
  | refine wVar rfl ?_ | refine wC ?_ | refine wNil ?_ | refine wCons ?_ | refine wBin ?_ | refine wUn ?_ | refine wCl ?_ | refine wTup ?_ | refine wLst ?_ | refine wIf ?_ | refine wIs ?_ | refine wCall ?_ | refine wDn ?_ | refine wNot ?_ | refine wAppd ?_ | refine wM1 ?_ | refine wSl ?_ | refine oNo_ ?_ | refine oSo_ ?_
  | refine wbCmp ?_ | refine wbTru ?_ | refine wbNot ?_ | refine wbAnd ?_ | refine wbOr ?_ | refine wB ?_
  | refine wsSeq ?_ | refine wsNil ?_ | refine wsRet ?_ | refine wsExpr ?_ | refine wsIf ?_ | refine wsSet ?_ | refine wsAsg ?_ | refine wsPar ?_ | refine wsAug rfl ?_))
theorem eqI (i j : Int) (S : Store) : eqP (.int i) (.int j) S = some (.bl (decide (i = j)), S) := rfl
theorem ix3 {S : Store} {p : Nat} {x y z : PV} (h : S[p]? = some (.lst [x, y, z])) : ixP (.loc p) (.int 0) S = some (x, S) ∧ ixP (.loc p) (.int 1) S = some (y, S) ∧ ixP (.loc p) (.int 2) S = some (z, S) := by
  unfold ixP
  simp only [h]
  exact ⟨rfl, rfl, rfl⟩
theorem set3 {S : Store} {p : Nat} {x y z w : PV} (h : S[p]? = some (.lst [x, y, z])) : setP (.loc p) (.int 0) w S = some (S.set p (.lst [w, y, z])) ∧ setP (.loc p) (.int 1) w S = some (S.set p (.lst [x, w, z])) ∧ setP (.loc p) (.int 2) w S = some (S.set p (.lst [x, y, w])) := by
  unfold setP
  simp only [h]
  exact ⟨rfl, rfl, rfl⟩
theorem get_set {S : Store} {p : Nat} {o o' : SO} (h : S[p]? = some o') : (S.set p o)[p]? = some o := List.getElem?_set_self (List.getElem?_eq_some_iff.mp h).1
theorem modI {a b : Int} {S : Store} (h : 0 < b) : modP (.int a) (.int b) S = some (.int (a % b), S) := if_pos h
theorem fdivI {a b : Int} {S : Store} (h : 0 < b) (h2 : b < 1073741824) : fdivP (.int a) (.int b) S = some (.int (a / b), S) := if_pos ⟨h, h2⟩
theorem mulI {a b : Int} {S : Store} (h : -(2 ^ 64) < b) (h2 : b < 2 ^ 64) : mulP (.int a) (.int b) S = some (.int (a * b), S) := if_pos (.inr ⟨h, h2⟩)
theorem setS {S : Store} {p : Nat} {o o' : SO} : (S.set p o).set p o' = S.set p o' := List.set_set ..
theorem gtI (i j : Int) (S : Store) : gtP (.int i) (.int j) S = some (.bl (decide (j < i)), S) := rfl
theorem asgS {S S' : Store} {p : Nat} {i : Int} {v : PV} {ρ : Env'} {k : Nat} (e : ρ[k]? = some (some (.loc p))) (h : setP (.loc p) (.int i) v S = some S') : tgS (eVar k) (eC (.int i)) v ρ S = some (ρ, S') := by
  unfold tgS eVar
  rw [e]
  show (match setP (.loc p) (.int i) v S with | some S3 => some (ρ, S3) | none => none) = _
  rw [h]
def RollPost (S : Store) (p : Nat) (many : Int) : PV → Store → Prop := fun v S' => ∃ r a' b' f', 0 ≤ r ∧ r < many ∧ v = .int r ∧ S' = S.set p (.lst [.int a', .int b', .int f'])
structure Grow (p : Nat) (S S' : Store) : Prop where
  len : S.length ≤ S'.length
  old : ∀ l, l < S.length → l ≠ p → S'[l]? = S[l]?
  dice : ∃ a b f : Int, S'[p]? = some (.lst [.int a, .int b, .int f])
theorem Grow.trans {p : Nat} {S S1 S2 : Store} (a : Grow p S S1) (b : Grow p S1 S2) : Grow p S S2 :=
  ⟨Nat.le_trans a.len b.len, fun l h n => (b.old l (Nat.lt_of_lt_of_le h a.len) n).trans (a.old l h n), b.dice⟩
theorem Grow.get {p l : Nat} {S S1 : Store} {o : SO} (a : Grow p S S1) (n : l ≠ p) (h : S[l]? = some o) : S1[l]? = some o := (a.old l (List.getElem?_eq_some_iff.mp h).1 n).trans h
theorem Grow.refl {p : Nat} {S : Store} {a b f : Int} (h : S[p]? = some (.lst [.int a, .int b, .int f])) : Grow p S S := ⟨Nat.le_refl _, fun _ _ _ => rfl, _, _, _, h⟩
theorem Grow.push {p : Nat} {S S1 : Store} (g : Grow p S S1) (o : SO) : Grow p S (S1 ++ [o]) := by
  obtain ⟨a, b, f, h⟩ := g.dice
  have up : ∀ {l : Nat}, l < S1.length → (S1 ++ [o])[l]? = S1[l]? := fun h => List.getElem?_append_left h
  refine ⟨by rw [List.length_append]; exact Nat.le_trans g.len (Nat.le_add_right _ _), fun l hl n => (up (Nat.lt_of_lt_of_le hl g.len)).trans (g.old l hl n), a, b, f, ?_⟩
  rw [up (List.getElem?_eq_some_iff.mp h).1]; exact h
theorem ltI (i j : Int) (S : Store) : ltP (.int i) (.int j) S = some (.bl (decide (i < j)), S) := rfl
theorem ixL {S : Store} {l : Nat} {xs : List PV} {i : Int} {v : PV} (h : S[l]? = some (.lst xs)) (e : atI xs i = some v) : ixP (.loc l) (.int i) S = some (v, S) := by
  unfold ixP
  simp only [h, e]
theorem addL {S : Store} {l k : Nat} {xs ys : List PV} (h1 : S[l]? = some (.lst xs)) (h2 : S[k]? = some (.lst ys)) (hl : xs.length + ys.length ≤ LINE) : addP (.loc l) (.loc k) S = some (.loc S.length, S ++ [.lst (xs ++ ys)]) := by
  unfold addP
  simp only [h1, h2, if_pos hl]
theorem lenL {S : Store} {l : Nat} {xs : List PV} (h1 : S[l]? = some (.lst xs)) : lenP [.loc l] S = some (.int xs.length, S) := by
  unfold lenP
  simp only [h1]
theorem lastS {S : Store} {o : SO} : (S ++ [o])[S.length]? = some o := by rw [List.getElem?_append_right (Nat.le_refl _), Nat.sub_self]; rfl
theorem itT {c : Bool} {A B : Prop} (h : c = true) (a : A) : if c = true then A else B := by rw [if_pos h]; exact a
theorem itF {c : Bool} {A B : Prop} (h : c = false) (b : B) : if c = true then A else B := by rw [if_neg (by rw [h]; exact Bool.false_ne_true)]; exact b
local macro_rules | `(tactic| walk_at "evr") => `(tactic| (repeat first
  | (first
  | refine wVar rfl ?_ | refine wC ?_ | refine wNil ?_ | refine wCons ?_ | refine wBin ?_ | refine wUn ?_ | refine wCl ?_ | refine wTup ?_ | refine wLst ?_ | refine wIf ?_ | refine wIs ?_ | refine wCall ?_ | refine wDn ?_ | refine wNot ?_ | refine wAppd ?_ | refine wM1 ?_ | refine wSl ?_ | refine oNo_ ?_ | refine oSo_ ?_
  | refine wbCmp ?_ | refine wbTru ?_ | refine wbNot ?_ | refine wbAnd ?_ | refine wbOr ?_ | refine wB ?_
  | refine wsSeq ?_ | refine wsNil ?_ | refine wsRet ?_ | refine wsExpr ?_ | refine wsIf ?_ | refine wsSet ?_ | refine wsAsg ?_ | refine wsPar ?_ | refine wsAug rfl ?_) | refine WO.mk rfl ?_ | refine itT rfl ?_ | refine itF rfl ?_ | refine ⟨_, _, rfl, ?_⟩ | refine ⟨_, rfl, ?_⟩ | refine ⟨rfl, ?_⟩))
abbrev Wd := List Nat
abbrev sv (ws : List Wd) : List PV := ws.map PV.str
abbrev chs (xs : List Nat) : List PV := xs.map fun c => PV.str [c]
def Pure (c : Oracle) (i : Nat) (args : List PV) (v : PV) : Prop := ∀ S, WE (c i args S) (fun w S' => w = v ∧ S' = S)
theorem Pure.use {c : Oracle} {i : Nat} {args : List PV} {v : PV} {S : Store} {Q : PV → Store → Prop} (h : Pure c i args v) (q : Q v S) : WE (c i args S) Q := (h S).imp fun w S' ⟨e1, e2⟩ => by subst e1 e2; exact q
theorem addT {xs ys : List PV} {S : Store} (h : xs.length + ys.length ≤ LINE) : addP (.tup xs) (.tup ys) S = some (.tup (xs ++ ys), S) := if_pos h
theorem small {n : Nat} (h : n ≤ 100000) : n ≤ LINE := Nat.le_trans h (by decide)
def NewL (c : Oracle) (i : Nat) (args : List PV) (xs : List PV) : Prop := ∀ S, WE (c i args S) (fun w S' => ∃ l J, w = .loc l ∧ S' = S ++ J ∧ S.length ≤ l ∧ S'[l]? = some (.lst xs))
theorem NewL.use {c : Oracle} {i : Nat} {args xs : List PV} {S : Store} {Q : PV → Store → Prop} (h : NewL c i args xs) (q : ∀ l J, S.length ≤ l → (S ++ J)[l]? = some (.lst xs) → Q (.loc l) (S ++ J)) : WE (c i args S) Q := (h S).imp fun w S' ⟨l, J, e1, e2, h1, h2⟩ => by subst e1 e2; exact q l J h1 h2
theorem grown {S J : Store} {l : Nat} {o : SO} (h : S[l]? = some o) : (S ++ J)[l]? = some o := by
  rw [List.getElem?_append_left (List.getElem?_eq_some_iff.mp h).1]; exact h
/-! equal values -/
theorem mapD_laid {f : PV → Option PyData} (ih : ∀ v d, f v = some d → d.canLay0 = true) : ∀ (xs : List PV) (ds : List PyData), mapD f xs = some ds → ∀ d ∈ ds, d.canLay0 = true
  | [], ds, e => by cases e; exact fun _ h => nomatch h
  | x :: xs, ds, e => by
    unfold mapD at e
    split at e
    · rename_i d ds e1 e2
      cases e
      intro d' hd
      rcases List.mem_cons.mp hd with rfl | hd
      · exact ih _ _ e1
      · exact mapD_laid ih xs ds e2 _ hd
    · cases e
theorem str_laid {s : List Nat} {d : PyData} (e : (if okS s then some (PyData.str ⟨s.toArray⟩) else none) = some d) : d.canLay0 = true := by
  split at e
  · rename_i hs
    cases e
    rw [PyData.canLay0]
    show s.toArray.all _ = true
    rw [List.all_toArray]; exact hs
  · cases e
theorem toD_laid (S : Store) : ∀ (n : Nat) (v : PV) (d : PyData), toD S n v = some d → d.canLay0 = true := by
  intro n
  induction n with
  | zero =>
    intro v d e
    cases v with
    | non => cases e; rfl
    | bl b => cases e; rfl
    | int i => cases e; rfl
    | str s => unfold toD at e; exact str_laid e
    | tup xs => cases e
    | loc l => cases e
  | succ n ih =>
    intro v d e
    cases v with
    | non => cases e; rfl
    | bl b => cases e; rfl
    | int i => cases e; rfl
    | str s => unfold toD at e; exact str_laid e
    | tup xs =>
      unfold toD at e
      obtain ⟨ds, e1, rfl⟩ := Option.map_eq_some_iff.mp e
      rw [PyData.canLay0]; exact canLayAll_of (mapD_laid ih xs ds e1)
    | loc l =>
      unfold toD at e
      split at e
      · obtain ⟨ds, e1, rfl⟩ := Option.map_eq_some_iff.mp e
        rw [PyData.canLay0]; exact canLayAll_of (mapD_laid ih _ ds e1)
      · obtain ⟨ds, e1, rfl⟩ := Option.map_eq_some_iff.mp e
        rw [PyData.canLay0]; exact canLayAll_of (mapD_laid ih _ ds e1)
      · cases e
theorem neSame {S : Store} {v w : PV} {d : PyData} (h1 : toD S 64 v = some d) (h2 : toD S 64 w = some d) : neP v w S = some (.bl false, S) := by
  unfold neP
  simp only [h1, h2, PySem.SeqAt.eqv_refl d (toD_laid S 64 v d h1)]
  rfl
theorem eqSame {S : Store} {v w : PV} {d : PyData} (h1 : toD S 64 v = some d) (h2 : toD S 64 w = some d) : eqP v w S = some (.bl true, S) := by
  unfold eqP
  simp only [h1, h2, PySem.SeqAt.eqv_refl d (toD_laid S 64 v d h1)]
/-- plain data, at most n deep -/
def Dat (n : Nat) (v : PV) : Prop := ∃ d, ∀ (S : Store) (m : Nat), n ≤ m → toD S m v = some d
def DatL (n : Nat) (xs : List PV) : Prop := ∃ ds, ∀ (S : Store) (m : Nat), n ≤ m → mapD (toD S m) xs = some ds
theorem DatL.of {n : Nat} : ∀ {xs : List PV}, (∀ x ∈ xs, Dat n x) → DatL n xs
  | [], _ => ⟨[], fun _ _ _ => rfl⟩
  | x :: xs, h => by
    obtain ⟨d, hd⟩ := h x (by simp)
    obtain ⟨ds, hds⟩ := DatL.of (xs := xs) fun y hy => h y (by simp [hy])
    refine ⟨d :: ds, fun S m hm => ?_⟩
    show (match toD S m x, mapD (toD S m) xs with
      | some d, some ds => some (d :: ds)
      | _, _ => none) = _
    rw [hd S m hm, hds S m hm]
theorem Dat.int (n : Nat) (i : Int) : Dat n (.int i) := ⟨.int i, fun S m _ => by cases m <;> rfl⟩
theorem Dat.bl (n : Nat) (b : Bool) : Dat n (.bl b) := ⟨.bool b, fun S m _ => by cases m <;> rfl⟩
theorem Dat.str (n : Nat) {s : List Nat} (h : okS s = true) : Dat n (.str s) := ⟨.str ⟨s.toArray⟩, fun S m _ => by
  cases m <;> (unfold toD; rw [if_pos h])⟩
theorem Dat.tup {n : Nat} {xs : List PV} (h : DatL n xs) : Dat (n + 1) (.tup xs) := by
  obtain ⟨ds, hds⟩ := h
  refine ⟨.tuple ds, fun S m hm => ?_⟩
  obtain ⟨k, rfl⟩ : ∃ k, m = k + 1 := ⟨m - 1, by omega⟩
  unfold toD
  rw [hds S k (by omega)]
  rfl
theorem Dat.le {n m : Nat} {v : PV} (h : Dat n v) (hm : n ≤ m) : Dat m v := by
  obtain ⟨d, hd⟩ := h
  exact ⟨d, fun S k hk => hd S k (by omega)⟩
theorem Dat.ne {n : Nat} {v : PV} (h : Dat n v) (hn : n ≤ 64) (S : Store) : neP v v S = some (.bl false, S) := by
  obtain ⟨d, hd⟩ := h
  exact neSame (hd S 64 hn) (hd S 64 hn)
theorem toD_list {S : Store} {m l : Nat} {xs : List PV} {ds : List PyData} (h : Ev.listAt S l = some xs) (e : mapD (toD S m) xs = some ds) : toD S (m + 1) (.loc l) = some (.list ds) := by
  unfold toD
  unfold Ev.listAt at h
  split at h
  · rename_i xs' e1
    cases h
    simp only [e1, e]
    rfl
  · rename_i xs' e1
    cases h
    simp only [e1, e]
    rfl
  · cases h
theorem listAt_lst {S : Store} {l : Nat} {xs : List PV} (h : S[l]? = some (.lst xs)) : Ev.listAt S l = some xs := by
  unfold Ev.listAt
  simp only [h]
theorem neLists {n : Nat} {S : Store} {l k : Nat} {xs : List PV} (h : DatL n xs) (hn : n ≤ 63) (h1 : S[l]? = some (.lst xs)) (h2 : S[k]? = some (.lst xs)) : neP (.loc l) (.loc k) S = some (.bl false, S) := by
  obtain ⟨ds, hds⟩ := h
  exact neSame (toD_list (m := 63) (listAt_lst h1) (hds S 63 hn)) (toD_list (m := 63) (listAt_lst h2) (hds S 63 hn))
theorem mapD_len {f : PV → Option PyData} : ∀ (xs : List PV) (ds : List PyData), mapD f xs = some ds → ds.length = xs.length
  | [], ds, e => by cases e; rfl
  | x :: xs, ds, e => by
    unfold mapD at e
    split at e
    · rename_i d ds e1 e2
      cases e
      rw [List.length_cons, List.length_cons, mapD_len xs ds e2]
    · cases e
theorem eqvNil (ds : List PyData) : PyData.eqvAll ds [] = ds.isEmpty := by cases ds <;> rfl
theorem isEm {α β : Type} {xs : List α} {ys : List β} (h : xs.length = ys.length) : xs.isEmpty = ys.isEmpty := by
  cases xs <;> cases ys <;> first | rfl | cases h
theorem eqTupNil {n : Nat} {xs : List PV} (h : DatL n xs) (hn : n ≤ 63) (S : Store) : eqP (.tup xs) (.tup []) S = some (.bl xs.isEmpty, S) := by
  obtain ⟨ds, hds⟩ := h
  have e1 : toD S 64 (.tup xs) = some (.tuple ds) := by
    unfold toD
    rw [hds S 63 hn]
    rfl
  have e2 : toD S 64 (.tup []) = some (.tuple []) := rfl
  unfold eqP
  simp only [e1, e2]
  rw [PyData.eqv, eqvNil, isEm (mapD_len _ _ (hds S 63 hn))]
theorem eqLstNil {n : Nat} {S : Store} {l k : Nat} {xs : List PV} (h : DatL n xs) (hn : n ≤ 63) (h1 : S[l]? = some (.lst xs)) (h2 : S[k]? = some (.lst [])) : eqP (.loc l) (.loc k) S = some (.bl xs.isEmpty, S) := by
  obtain ⟨ds, hds⟩ := h
  have e1 : toD S 64 (.loc l) = some (.list ds) := toD_list (m := 63) (listAt_lst h1) (hds S 63 hn)
  have e2 : toD S 64 (.loc k) = some (.list []) := toD_list (m := 63) (listAt_lst h2) rfl
  unfold eqP
  simp only [e1, e2]
  rw [PyData.eqv, eqvNil, isEm (mapD_len _ _ (hds S 63 hn))]
theorem strEqv {a b : List Nat} : PyData.eqv (.str ⟨a.toArray⟩) (.str ⟨b.toArray⟩) = decide (a = b) := by
  simp only [PyData.eqv]
  by_cases e : a = b
  · subst e
    rw [decide_eq_true rfl]
    exact beq_self_eq_true _
  · rw [decide_eq_false e]
    apply Bool.eq_false_iff.mpr
    intro h
    apply e
    have h := eq_of_beq h
    simpa using h
theorem eqStr {a b : List Nat} (ha : okS a = true) (hb : okS b = true) (S : Store) : eqP (.str a) (.str b) S = some (.bl (decide (a = b)), S) := by
  unfold eqP toD
  simp only [ha, hb, if_true, strEqv]
theorem neStr {a b : List Nat} (ha : okS a = true) (hb : okS b = true) (S : Store) : neP (.str a) (.str b) S = some (.bl (!decide (a = b)), S) := by
  unfold neP toD
  simp only [ha, hb, if_true, strEqv]
theorem okS_of {s : List Nat} (h : ∀ c ∈ s, c < 128) : okS s = true := by
  unfold okS
  rw [List.all_eq_true]
  intro c hc
  exact decide_eq_true (Nat.lt_trans (h c hc) (by decide))
/-! the store only grown -/
def Ext (S S' : Store) : Prop := ∃ J, S' = S ++ J
theorem Ext.refl {S : Store} : Ext S S := ⟨[], (List.append_nil _).symm⟩
theorem Ext.push {S S' : Store} (h : Ext S S') (o : SO) : Ext S (S' ++ [o]) := by
  obtain ⟨J, rfl⟩ := h; exact ⟨J ++ [o], List.append_assoc ..⟩
theorem Ext.more {S S' : Store} (h : Ext S S') (K : Store) : Ext S (S' ++ K) := by
  obtain ⟨J, rfl⟩ := h; exact ⟨J ++ K, List.append_assoc ..⟩
theorem Ext.trans {S S1 S2 : Store} (h : Ext S S1) (k : Ext S1 S2) : Ext S S2 := by
  obtain ⟨J, rfl⟩ := h; obtain ⟨K, rfl⟩ := k; exact ⟨J ++ K, List.append_assoc ..⟩
theorem Ext.set {S S' : Store} (h : Ext S S') {l : Nat} (hl : S.length ≤ l) (o : SO) : Ext S (S'.set l o) := by
  obtain ⟨J, rfl⟩ := h
  exact ⟨J.set (l - S.length) o, by rw [List.set_append_right _ _ hl]⟩
theorem Ext.get {S S' : Store} (h : Ext S S') {l : Nat} {o : SO} (e : S[l]? = some o) : S'[l]? = some o := by
  obtain ⟨J, rfl⟩ := h; exact grown e
theorem Ext.len {S S' : Store} (h : Ext S S') : S.length ≤ S'.length := by
  obtain ⟨J, rfl⟩ := h; rw [List.length_append]; omega
theorem Pure.of {c : Oracle} {i : Nat} {args : List PV} {v : PV} {n : Nat} {f : SF} (h : ∀ S, c i args S = runB n f args S) (k : ∀ S, WE (runB n f args S) (fun w S' => w = v ∧ S' = S)) : Pure c i args v := fun S => by rw [h]; exact k S
def PureJ (c : Oracle) (i : Nat) (args : List PV) (v : PV) : Prop := ∀ S, WE (c i args S) (fun w S' => w = v ∧ Ext S S')
theorem PureJ.use {c : Oracle} {i : Nat} {args : List PV} {v : PV} {S : Store} {Q : PV → Store → Prop} (h : PureJ c i args v) (q : ∀ J, Q v (S ++ J)) : WE (c i args S) Q := (h S).imp fun w S' ⟨e1, J, e2⟩ => by subst e1 e2; exact q J
theorem PureJ.of {c : Oracle} {i : Nat} {args : List PV} {v : PV} {n : Nat} {f : SF} (h : ∀ S, c i args S = runB n f args S) (k : ∀ S, WE (runB n f args S) (fun w S' => w = v ∧ Ext S S')) : PureJ c i args v := fun S => by rw [h]; exact k S
theorem Pure.j {c : Oracle} {i : Nat} {args : List PV} {v : PV} (h : Pure c i args v) : PureJ c i args v := fun S => (h S).imp fun w S' ⟨e1, e2⟩ => ⟨e1, e2 ▸ Ext.refl⟩
theorem eqFs (a b : Wd) : Ev.eqF (.str a) (.str b) = decide (a = b) := by
  show (a == b) = _
  by_cases h : a = b <;> simp [h]
abbrev nv (ns : List Wd) : List PV := ns.map PV.str
def ins (ks : List Wd) (n : Wd) : List Wd := if n ∈ ks then ks else ks ++ [n]
def dd (ns : List Wd) : List Wd := ns.foldl ins []
abbrev kv (v : PV) (ns : List Wd) : List (PV × PV) := ns.map fun m => (PV.str m, v)
theorem hasP_kv (v : PV) (n : Wd) : ∀ ks : List Wd, hasP (.str n) (kv v ks) = decide (n ∈ ks)
  | [] => rfl
  | k :: ks => by
    have ih := hasP_kv v n ks
    show (Ev.eqF (.str k) (.str n) || hasP (.str n) (kv v ks)) = _
    rw [eqFs, ih]
    by_cases h : k = n
    · subst h; simp
    · have : n ≠ k := fun e => h e.symm
      simp [h, this]
theorem putP_same (v : PV) (n : Wd) : ∀ ks : List Wd, ((kv v ks).map fun kv => if Ev.eqF kv.1 (.str n) then (kv.1, v) else kv) = kv v ks
  | [] => rfl
  | k :: ks => by
    have ih := putP_same v n ks
    simp only [kv, List.map_cons, List.map_map] at ih ⊢
    congr 1
    split <;> rfl
theorem putP_kv (v : PV) (ks : List Wd) (n : Wd) : putP (kv v ks) (.str n) v = kv v (ins ks n) := by
  unfold putP ins
  rw [hasP_kv]
  by_cases h : n ∈ ks
  · rw [if_pos (decide_eq_true h), if_pos h, putP_same]
  · rw [if_neg (by rw [decide_eq_true_eq]; exact h), if_neg h]
    simp [kv]
theorem fold_kv (v : PV) : ∀ (ns ks : List Wd), (nv ns).foldl (fun acc x => putP acc x v) (kv v ks) = kv v (ns.foldl ins ks)
  | [], ks => rfl
  | n :: ns, ks => by
    show (nv ns).foldl _ (putP (kv v ks) (.str n) v) = _
    rw [putP_kv, fold_kv v ns]
    rfl
theorem ins_len (ks : List Wd) (n : Wd) : (ins ks n).length ≤ ks.length + 1 := by
  unfold ins
  split
  · omega
  · rw [List.length_append]; exact Nat.le_refl _
theorem dd_len0 : ∀ (ns ks : List Wd), (ns.foldl ins ks).length ≤ ks.length + ns.length
  | [], ks => Nat.le_refl _
  | n :: ns, ks => by
    have h1 := dd_len0 ns (ins ks n)
    have h2 := ins_len ks n
    show (ns.foldl ins (ins ks n)).length ≤ ks.length + (ns.length + 1)
    omega
theorem dd_len (ns : List Wd) : (dd ns).length ≤ ns.length := by
  have := dd_len0 ns []
  unfold dd
  simpa using this
theorem filter_nv (m : Wd) (f : PV → Bool) (hf : ∀ n : Wd, f (.str n) = decide (n ≠ m)) : ∀ ns : List Wd, (nv ns).filter f = nv (ns.filter fun n => decide (n ≠ m))
  | [] => rfl
  | n :: ns => by
    have ih := filter_nv m f hf ns
    simp only [nv, List.map_cons, List.filter_cons, hf] at ih ⊢
    split
    · rw [List.map_cons, ih]
    · exact ih
theorem filter_yes {α : Type} (xs : List α) : xs.filter (fun _ => true) = xs := by simp
/-- n != m of names -/
def neN (m : Wd) : PV → Bool
  | .str s => !decide (s = m)
  | _ => true
theorem neN_ok (m n : Wd) : neN m (.str n) = decide (n ≠ m) := by
  show (!decide (n = m)) = decide (n ≠ m)
  by_cases h : n = m <;> simp [h]
theorem tup_keys {S : Store} {l : Nat} {ks : List Wd} {v : PV} (h : S[l]? = some (.dic (kv v ks))) : tupP3 [.loc l] S = some (.tup (nv ks), S) := by
  show tupP2 [.loc l] S = _
  unfold tupP2
  simp only [h]
  simp [kv, nv]
theorem pairs_kv (v : PV) : ∀ ns : List Wd, pairsOf (ns.map fun m => PV.tup [.str m, v]) = some (kv v ns)
  | [] => rfl
  | n :: ns => by
    show (match pairOf (.tup [.str n, v]), pairsOf (ns.map fun m => PV.tup [.str m, v]) with
      | some p, some l => some (p :: l)
      | _, _ => none) = _
    rw [pairs_kv v ns]
    rfl
theorem merge_kv (v : PV) : ∀ (ns ks : List Wd), mergeP (kv v ks) (kv v ns) = kv v (ns.foldl ins ks)
  | [], ks => rfl
  | n :: ns, ks => by
    show mergeP (putP (kv v ks) (.str n) v) (kv v ns) = _
    rw [putP_kv, merge_kv v ns]
    rfl
theorem dicL {S : Store} {l : Nat} {v : PV} {ns : List Wd} (h : S[l]? = some (.lst (ns.map fun m => PV.tup [.str m, v]))) : dicP [.loc l] S = some (.loc S.length, S ++ [.dic (kv v (dd ns))]) := by
  unfold dicP
  simp only [h, pairs_kv]
  have := merge_kv v ns []
  show some (PV.loc S.length, S ++ [SO.dic (mergeP (kv v []) (kv v ns))]) = _
  rw [this]
  rfl
theorem lstD {S : Store} {l : Nat} {v : PV} {ks : List Wd} (h : S[l]? = some (.dic (kv v ks))) : lstP [.loc l] S = some (.loc S.length, S ++ [.lst (nv ks)]) := by
  unfold lstP
  simp only [h]
  simp [kv, nv]
theorem inS (b : Bool) (c : Nat) (t : List Nat) (S : Store) : inP b (.str [c]) (.str t) S = some (.bl (if b then !decide (c ∈ t) else decide (c ∈ t)), S) := rfl
theorem iaddL {S : Store} {l k : Nat} {xs ys : List PV} (h1 : S[l]? = some (.lst xs)) (h2 : S[k]? = some (.lst ys)) (hl : xs.length + ys.length ≤ LINE) : iaddP (.loc l) (.loc k) S = some (.loc l, S.set l (.lst (xs ++ ys))) := by
  unfold iaddP
  simp only [h1, h2, if_pos hl]
theorem iaddS {xs ys : List Nat} {S : Store} (h : xs.length + ys.length ≤ 100000) : iaddP (.str xs) (.str ys) S = some (.str (xs ++ ys), S) := if_pos (small h)
theorem okS_app {a b : List Nat} (h1 : okS a = true) (h2 : okS b = true) : okS (a ++ b) = true := by
  unfold okS at *
  rw [List.all_append, h1, h2]
  rfl
theorem setD {S : Store} {l : Nat} {k v : PV} {kvs : List (PV × PV)} (h : S[l]? = some (.dic kvs)) (hk : keyP k = true) (hl : kvs.length < LINE) : setP (.loc l) k v S = some (S.set l (.dic (putP kvs k v))) := by
  unfold setP
  simp only [h, if_pos (And.intro hk hl)]
theorem set_last {S : Store} {o o' : SO} : (S ++ [o]).set S.length o' = S ++ [o'] := by
  rw [List.set_append_right _ _ (Nat.le_refl _), Nat.sub_self]; rfl
theorem pow18 (S : Store) : powP (.int 10) (.int 18) S = some (.int (10 ^ 18), S) := by
  show (if (0 : Int) ≤ 18 ∧ (18 : Int) ≤ 1000000 ∧ (10 : Int).natAbs < 2 ^ 64 then some (PV.int (10 ^ (18 : Int).toNat), S) else none) = _
  rw [if_pos (by decide)]
  rfl
theorem cut1 (xs : List PV) : cutL xs none (some 1) = xs.take 1 := by
  unfold cutL
  rw [HT.sIx_none, show (some (1 : Int)) = some ((1 : Nat) : Int) from rfl, HT.sIx_nat]
  cases xs with
  | nil => rfl
  | cons x xs => simp
theorem sl1 {S : Store} {l : Nat} {xs : List PV} (h : S[l]? = some (.lst xs) ∨ S[l]? = some (.rol xs)) : slP (.loc l) none (some 1) S = some (.loc S.length, S ++ [.lst (xs.take 1)]) := by
  unfold slP
  rcases h with h | h
  · simp only [h, cut1]
  · simp only [h, cut1]
theorem Grow.set {p l : Nat} {S S1 : Store} (g : Grow p S S1) (hl : S.length ≤ l) (hp : l ≠ p) (o : SO) : Grow p S (S1.set l o) := by
  obtain ⟨a, b, f, h⟩ := g.dice
  refine ⟨by rw [List.length_set]; exact g.len, fun k hk n => ?_, a, b, f, ?_⟩
  · rw [List.getElem?_set_ne (by omega)]; exact g.old k hk n
  · rw [List.getElem?_set_ne hp]; exact h
theorem Grow.ext {p : Nat} {S S1 S2 : Store} (g : Grow p S S1) (e : Ext S1 S2) : Grow p S S2 := by
  obtain ⟨J, rfl⟩ := e
  obtain ⟨a, b, f, h⟩ := g.dice
  have up : ∀ {l : Nat}, l < S1.length → (S1 ++ J)[l]? = S1[l]? := fun h => List.getElem?_append_left h
  refine ⟨by rw [List.length_append]; exact Nat.le_trans g.len (Nat.le_add_right _ _), fun l hl n => (up (Nat.lt_of_lt_of_le hl g.len)).trans (g.old l hl n), a, b, f, grown h⟩
theorem strs_chs : ∀ w : Wd, strsOf (chs w) = some (w.map fun c => [c])
  | [] => rfl
  | c :: r => by
    show (match strsOf (chs r) with
      | some l => some ([c] :: l)
      | none => none) = _
    rw [strs_chs r]
    rfl
theorem wsIfF {tt : BF} {f : SF} {ρ : Env'} {S : Store} {Q : Fl → Store → Prop} (h : WE (tt ρ S) fun c S1 => c = false ∧ Ext S S1) (q : ∀ J, Q (.nx ρ) (S ++ J)) : WS (sIf tt f sNil ρ S) Q := wsIf (h.imp fun c S1 ⟨e, J, e2⟩ => by subst e e2; exact itF rfl (wsNil (q J)))
theorem lstT (xs : List PV) (S : Store) : lstP [.tup xs] S = some (.loc S.length, S ++ [.lst xs]) := rfl

/-! Ev: dice, rolls, rounds: alike in every law. -/
def diceF : SF := (sSeq (sIf (bChn ltP ltP (eBin subP (eC (.int 0)) (eC (.int 10))) (eVar 0) (eC (.int 10))) (sSeq (sRet (eLst (eCons (eCl absP (eCons (eVar 0) eNil)) (eCons (eC (.int 0)) (eCons (eC (.int 2)) eNil))))) sNil) sNil) (sSeq (sRet (eLst (eCons (eVar 0) (eCons (eBin addP (eC (.int 1)) (eBin modP (eCl intP (eCons (eVar 0) eNil)) (eC (.int 1009)))) (eCons (eCl intP (eCons (eBin geP (eVar 0) (eBin powP (eC (.int 10)) (eC (.int 18)))) eNil)) eNil))))) sNil))
def rollF (c : Oracle) (i : Nat) : SF := (sSeq (sIf (bOr (bCmp eqP (eBin ixP (eVar 0) (eC (.int 2))) (eC (.int 2))) (bAnd (bCmp eqP (eBin ixP (eVar 0) (eC (.int 2))) (eC (.int 1))) (bCmp gtP (eBin ixP (eVar 0) (eC (.int 0))) (eC (.int 0))))) (sSeq (sAsg (eBin modP (eCl intP (eCons (eBin ixP (eVar 0) (eC (.int 0))) eNil)) (eVar 1)) (tgN 2)) (sSeq (sAsg (eBin fdivP (eBin ixP (eVar 0) (eC (.int 0))) (eVar 1)) (tgS (eVar 0) (eC (.int 0)))) (sSeq (sRet (eVar 2)) sNil))) sNil) (sSeq (sAsg (eC (.int 0)) (tgS (eVar 0) (eC (.int 2)))) (sSeq (sIf (bCmp gtP (eVar 1) (eC (.int 100000000))) (sSeq (sRet (eBin modP (eCl intP (eCons (eBin addP (eBin mulP (eCall c i 2 [] (eCons (eVar 0) (eCons (eBin addP (eBin fdivP (eVar 1) (eC (.int 100000000))) (eC (.int 1))) eNil))) (eC (.int 100000000))) (eCall c i 2 [] (eCons (eVar 0) (eCons (eC (.int 100000000)) eNil)))) eNil)) (eVar 1))) sNil) sNil) (sSeq (sAsg (eBin modP (eCl intP (eCons (eBin addP (eBin addP (eBin mulP (eBin ixP (eVar 0) (eC (.int 0))) (eC (.int 48271))) (eBin mulP (eBin ixP (eVar 0) (eC (.int 1))) (eC (.int 69621)))) (eC (.int 11))) eNil)) (eC (.int 2147483647))) (tgS (eVar 0) (eC (.int 0)))) (sSeq (sAsg (eBin addP (eBin ixP (eVar 0) (eC (.int 1))) (eC (.int 1))) (tgS (eVar 0) (eC (.int 1)))) (sSeq (sRet (eBin modP (eCl intP (eCons (eBin fdivP (eBin ixP (eVar 0) (eC (.int 0))) (eC (.int 7))) eNil)) (eVar 1))) sNil))))))
def roundsF (c : Oracle) (i : Nat) : SF := (sSeq (sAsg (eSl (eVar 0) oNo (oSo (eVar 1))) (tgN 2)) (sSeq (sIf (bCmp eqP (eVar 2) (eLst eNil)) (sSeq (sAsg (eLst (eCons (eC (.int 0)) eNil)) (tgN 2)) sNil) sNil) (sSeq (sRet (eLc (iOf (eVar 2)) (tgN 3) bYes (eCall c i 1 [] (eCons (eVar 3) eNil)) [3])) sNil)))
theorem roll_b (c : Oracle) (i : Nat) {S : Store} {p : Nat} {a b f many : Int} (h : S[p]? = some (.lst [.int a, .int b, .int f])) (h1 : 0 < many) (h2 : many ≤ 100000000) : WE (runB 3 (rollF c i) [.loc p, .int many] S) (RollPost S p many) := by
  refine wRun ?_
  unfold rollF
  refine wsSeq (wsIf ?_)
  have E : ∀ (QQ : Fl → Store → Prop), (∀ r a', 0 ≤ r → r < many → QQ (.rt (.int r)) (S.set p (.lst [.int a', .int b, .int f]))) → WS ((sSeq (sAsg (eBin modP (eCl intP (eCons (eBin ixP (eVar 0) (eC (.int 0))) eNil)) (eVar 1)) (tgN 2)) (sSeq (sAsg (eBin fdivP (eBin ixP (eVar 0) (eC (.int 0))) (eVar 1)) (tgS (eVar 0) (eC (.int 0)))) (sSeq (sRet (eVar 2)) sNil))) [some (.loc p), some (.int many), none] S) QQ := by
    intro QQ hQ
    walk_at "ev"
    refine .mk (ix3 h).1 ?_
    walk_at "ev"
    refine .mk rfl ?_
    walk_at "ev"
    refine .mk (modI h1) ?_
    walk_at "ev"
    refine .mk (ix3 h).1 ?_
    walk_at "ev"
    refine .mk (fdivI h1 (by omega)) ?_
    refine ⟨_, S.set p (.lst [.int (a / many), .int b, .int f]), asgS rfl (set3 h).1, ?_⟩
    walk_at "ev"
    exact hQ _ _ (Int.emod_nonneg _ (by omega)) (Int.emod_lt_of_pos _ h1)
  have hE := E (nxt (sSeq (sAsg (eC (.int 0)) (tgS (eVar 0) (eC (.int 2)))) (sSeq (sIf (bCmp gtP (eVar 1) (eC (.int 100000000))) (sSeq (sRet (eBin modP (eCl intP (eCons (eBin addP (eBin mulP (eCall c i 2 [] (eCons (eVar 0) (eCons (eBin addP (eBin fdivP (eVar 1) (eC (.int 100000000))) (eC (.int 1))) eNil))) (eC (.int 100000000))) (eCall c i 2 [] (eCons (eVar 0) (eCons (eC (.int 100000000)) eNil)))) eNil)) (eVar 1))) sNil) sNil) (sSeq (sAsg (eBin modP (eCl intP (eCons (eBin addP (eBin addP (eBin mulP (eBin ixP (eVar 0) (eC (.int 0))) (eC (.int 48271))) (eBin mulP (eBin ixP (eVar 0) (eC (.int 1))) (eC (.int 69621)))) (eC (.int 11))) eNil)) (eC (.int 2147483647))) (tgS (eVar 0) (eC (.int 0)))) (sSeq (sAsg (eBin addP (eBin ixP (eVar 0) (eC (.int 1))) (eC (.int 1))) (tgS (eVar 0) (eC (.int 1)))) (sSeq (sRet (eBin modP (eCl intP (eCons (eBin fdivP (eBin ixP (eVar 0) (eC (.int 0))) (eC (.int 7))) eNil)) (eVar 1))) sNil))))) (fin (RollPost S p many))) (fun r a' q1 q2 => ⟨r, a', b, f, q1, q2, rfl, rfl⟩)
  have G : WS (sSeq (sAsg (eC (.int 0)) (tgS (eVar 0) (eC (.int 2)))) (sSeq (sIf (bCmp gtP (eVar 1) (eC (.int 100000000))) (sSeq (sRet (eBin modP (eCl intP (eCons (eBin addP (eBin mulP (eCall c i 2 [] (eCons (eVar 0) (eCons (eBin addP (eBin fdivP (eVar 1) (eC (.int 100000000))) (eC (.int 1))) eNil))) (eC (.int 100000000))) (eCall c i 2 [] (eCons (eVar 0) (eCons (eC (.int 100000000)) eNil)))) eNil)) (eVar 1))) sNil) sNil) (sSeq (sAsg (eBin modP (eCl intP (eCons (eBin addP (eBin addP (eBin mulP (eBin ixP (eVar 0) (eC (.int 0))) (eC (.int 48271))) (eBin mulP (eBin ixP (eVar 0) (eC (.int 1))) (eC (.int 69621)))) (eC (.int 11))) eNil)) (eC (.int 2147483647))) (tgS (eVar 0) (eC (.int 0)))) (sSeq (sAsg (eBin addP (eBin ixP (eVar 0) (eC (.int 1))) (eC (.int 1))) (tgS (eVar 0) (eC (.int 1)))) (sSeq (sRet (eBin modP (eCl intP (eCons (eBin fdivP (eBin ixP (eVar 0) (eC (.int 0))) (eC (.int 7))) eNil)) (eVar 1))) sNil)))) [some (.loc p), some (.int many), none] S) (fin (RollPost S p many)) := by
    walk_at "ev"
    refine ⟨_, _, asgS rfl (set3 h).2.2, ?_⟩
    have g1 := get_set (o := .lst [.int a, .int b, .int 0]) h
    walk_at "ev"
    refine ⟨decide (100000000 < many), _, rfl, ?_⟩
    rw [if_neg (by rw [decide_eq_true_eq]; omega)]
    walk_at "ev"
    refine .mk (ix3 g1).1 ?_
    walk_at "ev"
    refine .mk (mulI (by decide) (by decide)) ?_
    walk_at "ev"
    refine .mk (ix3 g1).2.1 ?_
    walk_at "ev"
    refine .mk (mulI (by decide) (by decide)) ?_
    walk_at "ev"
    refine .mk rfl ?_
    walk_at "ev"
    refine .mk rfl ?_
    walk_at "ev"
    refine .mk rfl ?_
    walk_at "ev"
    refine .mk (modI (by decide)) ?_
    walk_at "ev"
    refine ⟨_, _, asgS rfl (set3 g1).1, ?_⟩
    have g2 := get_set (o := .lst [.int ((a * 48271 + b * 69621 + 11) % 2147483647), .int b, .int 0]) g1
    walk_at "ev"
    refine .mk (ix3 g2).2.1 ?_
    walk_at "ev"
    refine .mk rfl ?_
    refine ⟨_, _, asgS rfl (set3 g2).2.1, ?_⟩
    have g3 := get_set (o := .lst [.int ((a * 48271 + b * 69621 + 11) % 2147483647), .int (b + 1), .int 0]) g2
    walk_at "ev"
    refine .mk (ix3 g3).1 ?_
    walk_at "ev"
    refine .mk (fdivI (by decide) (by decide)) ?_
    walk_at "ev"
    refine .mk rfl ?_
    walk_at "ev"
    refine .mk (modI h1) ?_
    exact ⟨_, _, _, _, Int.emod_nonneg _ (by omega), Int.emod_lt_of_pos _ h1, rfl, by rw [setS, setS]⟩
  refine wbOr ?_
  walk_at "ev"
  refine .mk (ix3 h).2.2 ?_
  walk_at "ev"
  refine ⟨decide (f = 2), S, rfl, ?_⟩
  by_cases hf : f = 2
  · rw [if_pos (decide_eq_true hf), if_pos rfl]
    exact hE
  · rw [if_neg (by rw [decide_eq_true_eq]; exact hf)]
    walk_at "ev"
    refine .mk (ix3 h).2.2 ?_
    walk_at "ev"
    refine ⟨decide (f = 1), S, rfl, ?_⟩
    by_cases hf1 : f = 1
    · rw [if_pos (decide_eq_true hf1)]
      walk_at "ev"
      refine .mk (ix3 h).1 ?_
      walk_at "ev"
      refine ⟨decide (0 < a), S, rfl, ?_⟩
      by_cases ha : 0 < a
      · rw [if_pos (decide_eq_true ha)]
        exact hE
      · rw [if_neg (by rw [decide_eq_true_eq]; exact ha)]
        exact wsNil G
    · rw [if_neg (by rw [decide_eq_true_eq]; exact hf1), if_neg Bool.false_ne_true]
      exact wsNil G

abbrev DiceAt (S : Store) (p : Nat) : Prop := ∃ a b f : Int, S[p]? = some (.lst [.int a, .int b, .int f])
def RollOk (c : Oracle) (i : Nat) : Prop := ∀ (S : Store) (p : Nat) (many : Int), DiceAt S p → 0 < many → many ≤ 100000000 → WE (c i [.loc p, .int many] S) (fun v S' => ∃ r : Int, 0 ≤ r ∧ r < many ∧ v = .int r ∧ Grow p S S')
theorem RollOk.of {c c' : Oracle} {i : Nat} (h : ∀ vs S, c i vs S = runB 3 (rollF c' i) vs S) : RollOk c i := by
  intro S p many g h1 h2
  obtain ⟨a, b, f, h3⟩ := g
  rw [h]
  refine (roll_b c' i h3 h1 h2).imp ?_
  rintro v S' ⟨r, a', b', f', q1, q2, rfl, rfl⟩
  exact ⟨r, q1, q2, rfl, ⟨by rw [List.length_set]; exact Nat.le_refl _, fun l hl n => List.getElem?_set_ne (Ne.symm n), _, _, _, get_set h3⟩⟩
theorem dice_s (i : Int) (S : Store) : WE (runB 1 diceF [.int i] S) fun v S' => ∃ a b f : Int, v = .loc S.length ∧ S' = S ++ [.lst [.int a, .int b, .int f]] := by
  refine wRun ?_
  unfold diceF
  refine wsSeq (wsIf (wChn ?_))
  have T : ∀ S : Store, WS ((sSeq (sRet (eLst (eCons (eVar 0) (eCons (eBin addP (eC (.int 1)) (eBin modP (eCl intP (eCons (eVar 0) eNil)) (eC (.int 1009)))) (eCons (eCl intP (eCons (eBin geP (eVar 0) (eBin powP (eC (.int 10)) (eC (.int 18)))) eNil)) eNil))))) sNil) [some (PV.int i)] S) (fin fun v S' => ∃ a b f : Int, v = .loc S.length ∧ S' = S ++ [.lst [.int a, .int b, .int f]]) := by
    intro S
    walk_at "ev"
    refine .mk rfl ?_
    walk_at "ev"
    refine .mk (modI (by decide)) ?_
    walk_at "ev"
    refine .mk rfl ?_
    walk_at "ev"
    refine .mk (pow18 S) ?_
    refine .mk rfl ?_
    walk_at "ev"
    refine .mk rfl ?_
    walk_at "ev"
    refine ⟨by show 3 ≤ LINE; decide, _, _, _, rfl, rfl⟩
  walk_at "ev"
  refine .mk rfl ?_
  walk_at "ev"
  refine ⟨_, _, ltI .., ?_⟩
  by_cases h1 : (0 : Int) - 10 < i
  · refine itT (decide_eq_true h1) ?_
    walk_at "ev"
    refine ⟨_, _, ltI .., ?_⟩
    by_cases h2 : i < 10
    · refine itT (decide_eq_true h2) ?_
      walk_at "ev"
      refine .mk rfl ?_
      walk_at "ev"
      refine ⟨by show 3 ≤ LINE; decide, _, _, _, rfl, rfl⟩
    · refine itF (decide_eq_false h2) ?_
      exact wsNil (T S)
  · refine itF (decide_eq_false h1) ?_
    exact itF rfl (wsNil (T S))

def DiceOk (c : Oracle) (i : Nat) : Prop := ∀ (n : Int) (S : Store), WE (c i [.int n] S) fun v S' => ∃ a b f : Int, v = .loc S.length ∧ S' = S ++ [.lst [.int a, .int b, .int f]]
theorem DiceOk.of {c : Oracle} {i : Nat} (h : ∀ vs S, c i vs S = runB 1 diceF vs S) : DiceOk c i := fun n S => by rw [h]; exact dice_s n S
theorem rounds_s {c : Oracle} {ii : Nat} (hd : DiceOk c ii) (ns : List Int) (S : Store) (l : Nat) (h : S[l]? = some (.lst (ns.map PV.int)) ∨ S[l]? = some (.rol (ns.map PV.int))) : WE (runB 4 (roundsF c ii) [.loc l, .int 1] S) fun v S' => ∃ k p a b f, v = .loc k ∧ k ≠ p ∧ S'[k]? = some (.lst [.loc p]) ∧ S'[p]? = some (.lst [.int a, .int b, .int f]) := by
  refine wRun ?_
  unfold roundsF
  have T : ∀ (S : Store) (k : Nat) (i : Int), S[k]? = some (.lst [.int i]) → WS ((sSeq (sRet (eLc (iOf (eVar 2)) (tgN 3) bYes (eCall c ii 1 [] (eCons (eVar 3) eNil)) [3])) sNil) [some (PV.loc l), some (PV.int 1), some (PV.loc k), none] S) (fin fun v S' => ∃ k p a b f, v = .loc k ∧ k ≠ p ∧ S'[k]? = some (.lst [.loc p]) ∧ S'[p]? = some (.lst [.int a, .int b, .int f])) := by
    intro S k i hk
    have hl : k < S.length := (List.getElem?_eq_some_iff.mp hk).1
    walk_at "ev"
    refine wLc (wOf ?_)
    walk_at "ev"
    refine ⟨_, srcL hk, ?_⟩
    rw [fuelL hk]
    refine wlcGo (v := .int i) (by rw [nthL (grown hk)]; rfl) rfl ?_
    refine ⟨true, _, rfl, ?_⟩
    refine itT rfl ?_
    walk_at "ev"
    refine ⟨rfl, ?_⟩
    refine (hd i _).imp ?_
    rintro v S' ⟨a, b, f, rfl, rfl⟩
    refine ⟨[], grown lastS, by show 0 < 16777216; omega, ?_⟩
    refine wlcEnd ?_ ?_
    · have h4 : ((S ++ [SO.lst []] ++ [SO.lst [.int a, .int b, .int f]]).set S.length (.lst ([] ++ [.loc (S ++ [SO.lst []]).length])))[k]? = some (.lst [.int i]) := by
        rw [List.getElem?_set_ne (by omega)]
        exact grown (grown hk)
      rw [nthL h4]
      rfl
    · refine ⟨S.length, (S ++ [SO.lst []]).length, a, b, f, rfl, by simp, ?_, ?_⟩
      · rw [get_set (grown lastS)]
        rfl
      · rw [List.getElem?_set_ne (by simp)]
        exact lastS
  walk_at "ev"
  refine .mk (sl1 h) ?_
  walk_at "ev"
  try refine ⟨by show 0 ≤ LINE; decide, ?_⟩
  have hD : DatL 0 ((ns.map PV.int).take 1) := .of fun x hx => by
    obtain ⟨i, _, rfl⟩ := List.mem_map.mp (List.mem_of_mem_take hx)
    exact .int _ _
  refine ⟨_, _, eqLstNil hD (by omega) (grown lastS) lastS, ?_⟩
  cases ns with
  | nil =>
    refine itT rfl ?_
    refine wsSeq (wsSet (wLst (wCons (wC (wNil ⟨by show 1 ≤ LINE; decide, ?_⟩)))))
    exact wsNil (T _ _ 0 lastS)
  | cons i ns =>
    refine itF rfl ?_
    exact wsNil (T _ _ i (grown lastS))


/-! Ev: terms with names, as the laws draw them. -/
/-- of def 24; calls j=21, i=24 -/
def termF (c : Oracle) (i : Nat) (j : Nat) : SF := (sSeq (sAsg (eCall c j 2 [] (eCons (eVar 0) (eCons (eIf (bCmp gtP (eVar 1) (eC (.int 0))) (eC (.int 9)) (eC (.int 3))) eNil))) (tgN 3)) (sSeq (sIf (bCmp ltP (eVar 3) (eC (.int 3))) (sSeq (sRet (eIf (bCmp gtP (eCall c j 2 [] (eCons (eVar 0) (eCons (eC (.int 9)) eNil))) (eC (.int 0))) (eBin ixP (eBin addP (eLst (eCons (eC (.str [120])) (eCons (eC (.str [121])) (eCons (eC (.str [122])) eNil)))) (eVar 2)) (eCall c j 2 [] (eCons (eVar 0) (eCons (eBin addP (eC (.int 3)) (eCl lenP (eCons (eVar 2) eNil))) eNil)))) (eCall c j 2 [] (eCons (eVar 0) (eCons (eC (.int 9)) eNil))))) sNil) sNil) (sSeq (sIf (bCmp ltP (eVar 3) (eC (.int 6))) (sSeq (sAsg (eBin ixP (eLst (eCons (eC (.str [120])) (eCons (eC (.str [121])) (eCons (eC (.str [122])) (eCons (eC (.str [117])) eNil))))) (eCall c j 2 [] (eCons (eVar 0) (eCons (eC (.int 4)) eNil)))) (tgN 4)) (sSeq (sRet (eTup (eCons (eC (.str [102, 117, 110])) (eCons (eVar 4) (eCons (eCall c i 3 [] (eCons (eVar 0) (eCons (eBin subP (eVar 1) (eC (.int 1))) (eCons (eVar 2) eNil)))) eNil))))) sNil)) sNil) (sSeq (sRet (eTup (eCons (eC (.str [97, 116])) (eCons (eCall c i 3 [] (eCons (eVar 0) (eCons (eBin subP (eVar 1) (eC (.int 1))) (eCons (eVar 2) eNil)))) (eCons (eCall c i 3 [] (eCons (eVar 0) (eCons (eBin subP (eVar 1) (eC (.int 1))) (eCons (eVar 2) eNil)))) eNil))))) sNil))))
/-- of def 25; calls j=21, i=25 -/
def closedF (c : Oracle) (i : Nat) (j : Nat) : SF := (sSeq (sAsg (eCall c j 2 [] (eCons (eVar 0) (eCons (eIf (bCmp gtP (eVar 1) (eC (.int 0))) (eC (.int 9)) (eC (.int 2))) eNil))) (tgN 3)) (sSeq (sIf (bAnd (bCmp eqP (eVar 2) (eLst eNil)) (bCmp ltP (eVar 3) (eC (.int 2)))) (sSeq (sAsg (eC (.int 3)) (tgN 3)) sNil) sNil) (sSeq (sIf (bCmp ltP (eVar 3) (eC (.int 2))) (sSeq (sRet (eBin ixP (eVar 2) (eCall c j 2 [] (eCons (eVar 0) (eCons (eCl lenP (eCons (eVar 2) eNil)) eNil))))) sNil) sNil) (sSeq (sIf (bOr (bCmp ltP (eVar 3) (eC (.int 6))) (bCmp ltP (eVar 1) (eC (.int 1)))) (sSeq (sAsg (eBin ixP (eLst (eCons (eC (.str [120])) (eCons (eC (.str [121])) (eCons (eC (.str [122])) (eCons (eC (.str [117])) eNil))))) (eCall c j 2 [] (eCons (eVar 0) (eCons (eC (.int 4)) eNil)))) (tgN 4)) (sSeq (sRet (eTup (eCons (eC (.str [102, 117, 110])) (eCons (eVar 4) (eCons (eCall c i 3 [] (eCons (eVar 0) (eCons (eBin subP (eVar 1) (eC (.int 1))) (eCons (eBin addP (eVar 2) (eLst (eCons (eVar 4) eNil))) eNil)))) eNil))))) sNil)) sNil) (sSeq (sRet (eTup (eCons (eC (.str [97, 116])) (eCons (eCall c i 3 [] (eCons (eVar 0) (eCons (eBin subP (eVar 1) (eC (.int 1))) (eCons (eVar 2) eNil)))) (eCons (eCall c i 3 [] (eCons (eVar 0) (eCons (eBin subP (eVar 1) (eC (.int 1))) (eCons (eVar 2) eNil)))) eNil))))) sNil)))))
inductive Tm where
  | nm (s : Wd) | num (k : Nat) | fn (s : Wd) (b : Tm) | ap (a b : Tm)
def Tm.pv : Tm → PV
  | .nm s => .str s
  | .num k => .int k
  | .fn s b => .tup [.str [102, 117, 110], .str s, b.pv]
  | .ap a b => .tup [.str [97, 116], a.pv, b.pv]
def Tm.dep : Tm → Nat
  | .nm _ => 0
  | .num _ => 0
  | .fn _ b => b.dep + 1
  | .ap a b => max a.dep b.dep + 1
/-- names, numbers below 9 -/
def Tm.All (p f : Wd → Prop) : Tm → Prop
  | .nm s => p s
  | .num k => k < 9
  | .fn s b => f s ∧ b.All p f
  | .ap a b => a.All p f ∧ b.All p f
theorem Tm.All.imp {p f p' f' : Wd → Prop} (h1 : ∀ s, p s → p' s) (h2 : ∀ s, f s → f' s) : ∀ {t : Tm}, t.All p f → t.All p' f'
  | .nm _, h => h1 _ h
  | .num _, h => h
  | .fn _ _, h => ⟨h2 _ h.1, Tm.All.imp h1 h2 h.2⟩
  | .ap _ _, h => ⟨Tm.All.imp h1 h2 h.1, Tm.All.imp h1 h2 h.2⟩
abbrev xyz : List Wd := [[120], [121], [122]]
abbrev xyzu : List Wd := [[120], [121], [122], [117]]
/-- a good word -/
def Gd (s : Wd) : Prop := s.length ≤ 8 ∧ ∀ c ∈ s, c < 128
theorem Gd.ok {s : Wd} (h : Gd s) : okS s = true := okS_of h.2
theorem xyzu_gd {s : Wd} (h : s ∈ xyzu) : Gd s := by
  have : s = [120] ∨ s = [121] ∨ s = [122] ∨ s = [117] := by simpa using h
  rcases this with rfl | rfl | rfl | rfl <;> exact ⟨by decide, by decide⟩
theorem xyz_u {s : Wd} (h : s ∈ xyz) : s ∈ xyzu := by
  have : s = [120] ∨ s = [121] ∨ s = [122] := by simpa using h
  rcases this with rfl | rfl | rfl <;> decide
theorem ixN_nat {n : Nat} {r : Int} (h0 : 0 ≤ r) (h : r < n) : ixN n r = some r.toNat := by
  unfold ixN
  rw [if_pos h0, if_pos h]
theorem at_nat {xs : List PV} {r : Int} {v : PV} (h0 : 0 ≤ r) (h : xs[r.toNat]? = some v) : atI xs r = some v := by
  have hl := (List.getElem?_eq_some_iff.mp h).1
  unfold atI
  rw [ixN_nat h0 (by omega)]
  exact h
theorem at_words {ns : List Wd} {r : Int} (h0 : 0 ≤ r) (h : r < ns.length) : ∃ n ∈ ns, atI (nv ns) r = some (.str n) := by
  have hl : r.toNat < ns.length := by omega
  refine ⟨ns[r.toNat], List.getElem_mem hl, at_nat h0 ?_⟩
  simp [hl]
theorem append_nv (a b : List Wd) : nv a ++ nv b = nv (a ++ b) := by simp
def leafF (c : Oracle) (j : Nat) : SF := (sSeq (sRet (eIf (bCmp gtP (eCall c j 2 [] (eCons (eVar 0) (eCons (eC (.int 9)) eNil))) (eC (.int 0))) (eBin ixP (eBin addP (eLst (eCons (eC (.str [120])) (eCons (eC (.str [121])) (eCons (eC (.str [122])) eNil)))) (eVar 2)) (eCall c j 2 [] (eCons (eVar 0) (eCons (eBin addP (eC (.int 3)) (eCl lenP (eCons (eVar 2) eNil))) eNil)))) (eCall c j 2 [] (eCons (eVar 0) (eCons (eC (.int 9)) eNil))))) sNil)
theorem dice_ne {S S1 : Store} {p : Nat} (g : DiceAt S p) (o : SO) : S.length ≠ p := by
  obtain ⟨a, b, f, hd⟩ := g
  exact Nat.ne_of_gt (List.getElem?_eq_some_iff.mp hd).1
theorem leaf_s {c : Oracle} {j : Nat} (hr : RollOk c j) {S : Store} {p q : Nat} {deep : Int} {ns : List Wd} {x y : Option PV} {Q : Fl → Store → Prop} (hns : ns.length ≤ 100) (ne : p ≠ q) (hp : DiceAt S p) (hq : S[q]? = some (.lst (nv ns)))
    (hQ : ∀ (t : Tm) S', t.dep = 0 → t.All (· ∈ xyz ++ ns) (· ∈ xyzu) → Grow p S S' → Q (.rt t.pv) S') : WS (leafF c j [some (.loc p), some (.int deep), some (.loc q), x, y] S) Q := by
  unfold leafF
  walk_at "ev"
  refine ⟨rfl, (hr _ _ _ hp (by decide) (by decide)).imp ?_⟩
  rintro _ S1 ⟨r, r0, r9, rfl, g1⟩
  walk_at "ev"
  refine ⟨decide (0 < r), S1, rfl, ?_⟩
  by_cases hr0 : 0 < r
  · rw [if_pos (decide_eq_true hr0)]
    walk_at "ev"
    refine ⟨by show 3 ≤ LINE; decide, ?_⟩
    have g2 := g1.push (.lst (nv xyz))
    walk_at "ev"
    refine .mk (addL lastS (g2.get (Ne.symm ne) hq) (small (by simp; omega))) ?_
    have g3 := g2.push (.lst (nv xyz ++ nv ns))
    walk_at "ev"
    refine .mk (lenL (g3.get (Ne.symm ne) hq)) ?_
    walk_at "ev"
    refine .mk rfl ?_
    walk_at "ev"
    refine ⟨rfl, (hr _ _ _ g3.dice (by simp; omega) (by simp; omega)).imp ?_⟩
    rintro _ S4 ⟨r2, r20, r25, rfl, g4⟩
    obtain ⟨n, hm, hn⟩ := at_words (ns := xyz ++ ns) r20 (by simp at r25 ⊢; omega)
    have hne : (S1 ++ [SO.lst (nv xyz)]).length ≠ p := dice_ne (S1 := S1) g2.dice (.lst [])
    refine .mk (ixL (g4.get hne lastS) (by rw [append_nv]; exact hn)) ?_
    exact hQ (.nm n) _ rfl hm (g3.trans g4)
  · rw [if_neg (by rw [decide_eq_true_eq]; exact hr0)]
    walk_at "ev"
    refine ⟨rfl, (hr _ _ _ g1.dice (by decide) (by decide)).imp ?_⟩
    rintro _ S2 ⟨r2, r20, r29, rfl, g2⟩
    have := hQ (.num r2.toNat) S2 rfl (by show r2.toNat < 9; omega) (g1.trans g2)
    have e9 : ((r2.toNat : Nat) : Int) = r2 := Int.toNat_of_nonneg r20
    simp only [Tm.pv] at this
    rw [e9] at this
    exact this
theorem term_s {c : Nat → Oracle} {i j : Nat} (hc : ∀ d vs S, c (d + 1) i vs S = runB 5 (termF (c d) i j) vs S) (hr : ∀ d, RollOk (c (d + 1)) j) {ns : List Wd} (hns : ns.length ≤ 100) : ∀ (deep d : Nat) (S : Store) (p q : Nat), deep < d → p ≠ q → DiceAt S p → S[q]? = some (.lst (nv ns)) →
    WE (c (d + 1) i [.loc p, .int deep, .loc q] S) (fun v S' => ∃ t : Tm, t.dep ≤ deep ∧ t.All (· ∈ xyz ++ ns) (· ∈ xyzu) ∧ v = t.pv ∧ Grow p S S') := by
  intro deep
  induction deep with
  | zero =>
    intro d S p q hd ne hp hq
    obtain ⟨e, rfl⟩ : ∃ e, d = e + 1 := ⟨d - 1, by omega⟩
    rw [hc]
    refine wRun (n := 5) (f := termF (c (e + 1)) i j) ?_
    unfold termF
    walk_at "ev"
    refine ⟨false, S, rfl, ?_⟩
    rw [if_neg Bool.false_ne_true]
    walk_at "ev"
    refine ⟨rfl, (hr e _ _ _ hp (by decide) (by decide)).imp ?_⟩
    rintro _ S1 ⟨r, r0, r3, rfl, g1⟩
    walk_at "ev"
    refine ⟨decide (r < 3), S1, rfl, ?_⟩
    rw [if_pos (decide_eq_true r3)]
    exact leaf_s (hr e) hns ne g1.dice (g1.get (Ne.symm ne) hq) fun t S' h ha g => ⟨t, Nat.le_of_eq h, ha, rfl, g1.trans g⟩
  | succ n ih =>
    intro d S p q hd ne hp hq
    obtain ⟨e, rfl⟩ : ∃ e, d = e + 1 := ⟨d - 1, by omega⟩
    rw [hc]
    refine wRun (n := 5) (f := termF (c (e + 1)) i j) ?_
    unfold termF
    walk_at "ev"
    refine ⟨true, S, by show some (PV.bl (decide ((0 : Int) < ((n + 1 : Nat) : Int))), S) = _; rw [decide_eq_true (by omega)], ?_⟩
    rw [if_pos rfl]
    walk_at "ev"
    refine ⟨rfl, (hr e _ _ _ hp (by decide) (by decide)).imp ?_⟩
    rintro _ S1 ⟨r, r0, r9, rfl, g1⟩
    have hq1 := g1.get (Ne.symm ne) hq
    have en : ((n + 1 : Nat) : Int) - 1 = (n : Int) := by omega
    walk_at "ev"
    refine ⟨decide (r < 3), S1, rfl, ?_⟩
    by_cases r3 : r < 3
    · rw [if_pos (decide_eq_true r3)]
      exact leaf_s (hr e) hns ne g1.dice hq1 fun t S' h ha g => ⟨t, by omega, ha, rfl, g1.trans g⟩
    · rw [if_neg (by rw [decide_eq_true_eq]; exact r3)]
      walk_at "ev"
      refine ⟨decide (r < 6), S1, rfl, ?_⟩
      by_cases r6 : r < 6
      · rw [if_pos (decide_eq_true r6)]
        walk_at "ev"
        refine ⟨by show 4 ≤ LINE; decide, ?_⟩
        have g2 := g1.push (.lst (nv xyzu))
        walk_at "ev"
        refine ⟨rfl, (hr e _ _ _ g2.dice (by decide) (by decide)).imp ?_⟩
        rintro _ S3 ⟨r2, r20, r24, rfl, g3⟩
        obtain ⟨m, hm, hmm⟩ := at_words (ns := xyzu) r20 r24
        have hne : S1.length ≠ p := dice_ne (S1 := S1) g1.dice (.lst [])
        refine .mk (ixL (g3.get hne lastS) hmm) ?_
        walk_at "ev"
        refine .mk rfl ?_
        walk_at "ev"
        refine ⟨rfl, ?_⟩
        have := ih e S3 p q (by omega) ne g3.dice ((g2.trans g3).get (Ne.symm ne) hq)
        rw [← en] at this
        refine WE.imp this ?_
        rintro _ S4 ⟨t, ht, ha, rfl, g4⟩
        walk_at "ev"
        refine ⟨by show 3 ≤ LINE; decide, ?_⟩
        exact ⟨.fn m t, by show t.dep + 1 ≤ n + 1; omega, ⟨hm, ha⟩, rfl, (g2.trans g3).trans g4⟩
      · rw [if_neg (by rw [decide_eq_true_eq]; exact r6)]
        walk_at "ev"
        refine .mk rfl ?_
        walk_at "ev"
        refine ⟨rfl, ?_⟩
        have := ih e S1 p q (by omega) ne g1.dice hq1
        rw [← en] at this
        refine WE.imp this ?_
        rintro _ S2 ⟨t, ht, ha, rfl, g2⟩
        walk_at "ev"
        refine .mk rfl ?_
        walk_at "ev"
        refine ⟨rfl, ?_⟩
        have := ih e S2 p q (by omega) ne g2.dice (g2.get (Ne.symm ne) hq1)
        rw [← en] at this
        refine WE.imp this ?_
        rintro _ S3 ⟨t2, ht2, ha2, rfl, g3⟩
        walk_at "ev"
        refine ⟨by show 3 ≤ LINE; decide, ?_⟩
        exact ⟨.ap t t2, by show max t.dep t2.dep + 1 ≤ n + 1; omega, ⟨ha, ha2⟩, rfl, (g1.trans g2).trans g3⟩

/-! Ev: closed terms drawn. -/
def Tm.Cl : Tm → List Wd → Prop
  | .nm s, e => s ∈ e
  | .num _, _ => False
  | .fn s b, e => s ∈ xyzu ∧ b.Cl (s :: e)
  | .ap a b, e => a.Cl e ∧ b.Cl e
def funG (c : Oracle) (i j : Nat) : SF := (sSeq (sAsg (eBin ixP (eLst (eCons (eC (.str [120])) (eCons (eC (.str [121])) (eCons (eC (.str [122])) (eCons (eC (.str [117])) eNil))))) (eCall c j 2 [] (eCons (eVar 0) (eCons (eC (.int 4)) eNil)))) (tgN 4)) (sSeq (sRet (eTup (eCons (eC (.str [102, 117, 110])) (eCons (eVar 4) (eCons (eCall c i 3 [] (eCons (eVar 0) (eCons (eBin subP (eVar 1) (eC (.int 1))) (eCons (eBin addP (eVar 2) (eLst (eCons (eVar 4) eNil))) eNil)))) eNil))))) sNil))
def ClosedAt (c : Oracle) (i : Nat) (m : Nat) : Prop := ∀ (S : Store) (p q : Nat) (e : List Wd), p ≠ q → DiceAt S p → (∀ s ∈ e, s ∈ xyzu) → e.length + m ≤ 60 → (m = 0 → e ≠ []) → S[q]? = some (.lst (nv e.reverse)) →
    WE (c i [.loc p, .int ((m : Int) - 1), .loc q] S) (fun v S' => ∃ t : Tm, t.dep ≤ m ∧ t.Cl e ∧ v = t.pv ∧ Grow p S S')
theorem fun_g {c : Oracle} {i j : Nat} (hr : RollOk c j) {k : Nat} (ih : ClosedAt c i k) {S : Store} {p q : Nat} {e : List Wd} {x y : Option PV} {Q : Fl → Store → Prop} (ne : p ≠ q) (hp : DiceAt S p) (he : ∀ s ∈ e, s ∈ xyzu) (hl : e.length + k + 1 ≤ 60) (hq : S[q]? = some (.lst (nv e.reverse)))
    (hQ : ∀ (t : Tm) S', t.dep ≤ k + 1 → t.Cl e → Grow p S S' → Q (.rt t.pv) S') : WS (funG c i j [some (.loc p), some (.int ((k + 1 : Nat) - 1)), some (.loc q), x, y] S) Q := by
  have g0 : Grow p S S := by
    obtain ⟨a, b, f, h⟩ := hp
    exact .refl h
  unfold funG
  walk_at "ev"
  refine ⟨by show 4 ≤ LINE; decide, ?_⟩
  have g2 := g0.push (.lst (nv xyzu))
  walk_at "ev"
  refine ⟨rfl, (hr _ _ _ g2.dice (by decide) (by decide)).imp ?_⟩
  rintro _ S3 ⟨r2, r20, r24, rfl, g3⟩
  obtain ⟨m, hm, hmm⟩ := at_words (ns := xyzu) r20 r24
  have hne : S.length ≠ p := dice_ne (S1 := S) hp (.lst [])
  refine .mk (ixL (g3.get hne lastS) hmm) ?_
  walk_at "ev"
  refine .mk rfl ?_
  walk_at "ev"
  refine ⟨by show 1 ≤ LINE; decide, ?_⟩
  have g3' := g2.trans g3
  have hq3 := g3'.get (Ne.symm ne) hq
  have g4 := g3'.push (.lst [.str m])
  walk_at "ev"
  refine .mk (addL (grown hq3) lastS (small (by simp; omega))) ?_
  walk_at "ev"
  refine ⟨rfl, ?_⟩
  have g5 := g4.push (.lst (nv e.reverse ++ [.str m]))
  have hne5 : p ≠ (S3 ++ [SO.lst [.str m]]).length := (dice_ne (S1 := S) g4.dice (.lst [])).symm
  have := ih _ p _ (m :: e) hne5 g5.dice (fun s hs => by
    rcases List.mem_cons.mp hs with rfl | hs
    · exact hm
    · exact he s hs) (by simp; omega) (fun _ => by simp) (by rw [lastS]; simp [nv])
  have en : (((k + 1 : Nat) : Int) - 1) - 1 = (k : Int) - 1 := by omega
  rw [en]
  refine WE.imp this ?_
  rintro _ S6 ⟨t, ht, ha, rfl, g6⟩
  walk_at "ev"
  refine ⟨by show 3 ≤ LINE; decide, ?_⟩
  exact hQ (.fn m t) _ (by show t.dep + 1 ≤ k + 1; omega) ⟨hm, ha⟩ (g5.trans g6)
theorem datL_words {ns : List Wd} (h : ∀ s ∈ ns, okS s = true) : DatL 0 (nv ns) := .of fun x hx => by
  obtain ⟨s, hs, rfl⟩ := List.mem_map.mp hx
  exact .str _ (h s hs)
def restG (c : Oracle) (i j : Nat) : SF := (sSeq (sIf (bCmp ltP (eVar 3) (eC (.int 2))) (sSeq (sRet (eBin ixP (eVar 2) (eCall c j 2 [] (eCons (eVar 0) (eCons (eCl lenP (eCons (eVar 2) eNil)) eNil))))) sNil) sNil) (sSeq (sIf (bOr (bCmp ltP (eVar 3) (eC (.int 6))) (bCmp ltP (eVar 1) (eC (.int 1)))) (funG c i j) sNil) (sSeq (sRet (eTup (eCons (eC (.str [97, 116])) (eCons (eCall c i 3 [] (eCons (eVar 0) (eCons (eBin subP (eVar 1) (eC (.int 1))) (eCons (eVar 2) eNil)))) (eCons (eCall c i 3 [] (eCons (eVar 0) (eCons (eBin subP (eVar 1) (eC (.int 1))) (eCons (eVar 2) eNil)))) eNil))))) sNil)))
theorem closedF_eq (c : Oracle) (i j : Nat) : closedF c i j = (sSeq (sAsg (eCall c j 2 [] (eCons (eVar 0) (eCons (eIf (bCmp gtP (eVar 1) (eC (.int 0))) (eC (.int 9)) (eC (.int 2))) eNil))) (tgN 3)) (sSeq (sIf (bAnd (bCmp eqP (eVar 2) (eLst eNil)) (bCmp ltP (eVar 3) (eC (.int 2)))) (sSeq (sAsg (eC (.int 3)) (tgN 3)) sNil) sNil) (restG c i j))) := rfl
theorem rest_g {c : Oracle} {i j : Nat} (hr : RollOk c j) {k : Nat} (ih : ∀ k', k = k' + 1 → ClosedAt c i k') {S0 S : Store} {p q : Nat} {e : List Wd} {r : Int} (ne : p ≠ q) (g0 : Grow p S0 S) (he : ∀ s ∈ e, s ∈ xyzu) (hl : e.length + k ≤ 60) (hq : S[q]? = some (.lst (nv e.reverse)))
    (h2 : r < 2 → e ≠ []) (h0 : k = 0 → r < 2) (h6 : 6 ≤ r → 2 ≤ k) : WS (restG c i j [some (.loc p), some (.int ((k : Int) - 1)), some (.loc q), some (.int r), none] S) (fin fun v S' => ∃ t : Tm, t.dep ≤ k ∧ t.Cl e ∧ v = t.pv ∧ Grow p S0 S') := by
  unfold restG
  refine wsSeq (wsIf ?_)
  walk_at "ev"
  refine ⟨_, _, ltI .., ?_⟩
  by_cases hr2 : r < 2
  · refine itT (decide_eq_true hr2) ?_
    walk_at "ev"
    refine .mk (lenL hq) ?_
    walk_at "ev"
    have hlen : 0 < e.length := List.length_pos_iff.mpr (h2 hr2)
    refine ⟨rfl, (hr _ _ _ g0.dice (by simp; omega) (by simp; omega)).imp ?_⟩
    rintro _ S3 ⟨r3, r30, r3l, rfl, g3⟩
    obtain ⟨n, hn, hnn⟩ := at_words (ns := e.reverse) r30 (by simp at r3l ⊢; omega)
    refine .mk (ixL (g3.get (Ne.symm ne) hq) hnn) ?_
    exact ⟨.nm n, Nat.zero_le _, by show n ∈ e; simpa using hn, rfl, g0.trans g3⟩
  · refine itF (decide_eq_false hr2) (wsNil ?_)
    obtain ⟨k', rfl⟩ : ∃ k', k = k' + 1 := ⟨k - 1, by
      have : k ≠ 0 := fun h => hr2 (h0 h)
      omega⟩
    refine wsSeq (wsIf (wbOr ?_))
    walk_at "ev"
    refine ⟨_, _, ltI .., ?_⟩
    by_cases hr6 : r < 6
    · refine itT (decide_eq_true hr6) ?_
      refine itT rfl ?_
      exact fun_g hr (ih k' rfl) ne g0.dice he (by omega) hq fun t S' h1 h2 g => ⟨t, h1, h2, rfl, g0.trans g⟩
    · have h2k := h6 (by omega)
      refine itF (decide_eq_false hr6) ?_
      walk_at "ev"
      refine ⟨_, _, ltI .., ?_⟩
      refine itF (decide_eq_false (by omega)) (wsNil ?_)
      have en : (((k' + 1 : Nat) : Int) - 1) - 1 = (k' : Int) - 1 := by omega
      walk_at "ev"
      refine .mk rfl ?_
      walk_at "ev"
      rw [en]
      refine ⟨rfl, ?_⟩
      refine (ih k' rfl S p q e ne g0.dice he (by omega) (by omega) hq).imp ?_
      rintro _ S2 ⟨t, ht, ha, rfl, g2⟩
      walk_at "ev"
      refine .mk rfl ?_
      walk_at "ev"
      rw [en]
      refine ⟨rfl, ?_⟩
      refine (ih k' rfl S2 p q e ne g2.dice he (by omega) (by omega) (g2.get (Ne.symm ne) hq)).imp ?_
      rintro _ S3 ⟨t2, ht2, ha2, rfl, g3⟩
      walk_at "ev"
      refine ⟨by show 3 ≤ LINE; decide, ?_⟩
      exact ⟨.ap t t2, by show max t.dep t2.dep + 1 ≤ k' + 1; omega, ⟨ha, ha2⟩, rfl, (g0.trans g2).trans g3⟩
theorem closed_s {c : Nat → Oracle} {i j : Nat} (hc : ∀ d vs S, c (d + 1) i vs S = runB 5 (closedF (c d) i j) vs S) (hr : ∀ d, RollOk (c (d + 1)) j) : ∀ (m d : Nat), m < d → ClosedAt (c (d + 1)) i m := by
  intro m
  induction m with
  | zero =>
    intro d hd S p q e ne hp he hl hm hq
    obtain ⟨d', rfl⟩ : ∃ e, d = e + 1 := ⟨d - 1, by omega⟩
    have hne := hm rfl
    have hi : (nv e.reverse).isEmpty = false := by
      cases e with
      | nil => exact absurd rfl hne
      | cons a r => simp
    rw [hc]
    refine wRun (n := 5) (f := closedF (c (d' + 1)) i j) ?_
    rw [closedF_eq]
    refine wsSeq (wsSet (wCall (wCons (wVar rfl (wCons (wIf ?_))))))
    walk_at "ev"
    refine ⟨false, S, rfl, ?_⟩
    refine itF rfl ?_
    walk_at "ev"
    refine ⟨rfl, (hr d' _ _ _ hp (by decide) (by decide)).imp ?_⟩
    rintro _ S1 ⟨r, r0, r2, rfl, g1⟩
    have hq1 := g1.get (Ne.symm ne) hq
    refine wsSeq (wsIf (wbAnd ?_))
    walk_at "ev"
    refine ⟨by show 0 ≤ LINE; decide, ?_⟩
    have g2 := g1.push (.lst [])
    refine ⟨_, _, eqLstNil (datL_words fun s hs => (xyzu_gd (he s (by simpa using hs))).ok) (by omega) (grown hq1) lastS, ?_⟩
    rw [hi]
    refine itF rfl ?_
    refine itF rfl (wsNil ?_)
    exact rest_g (hr d') (k := 0) (fun _ h => by omega) ne g2 he hl (g2.get (Ne.symm ne) hq) (fun _ => hne) (fun _ => r2) (fun h => by omega)
  | succ k ih =>
    intro d hd S p q e ne hp he hl hm hq
    obtain ⟨d', rfl⟩ : ∃ e, d = e + 1 := ⟨d - 1, by omega⟩
    rw [hc]
    refine wRun (n := 5) (f := closedF (c (d' + 1)) i j) ?_
    rw [closedF_eq]
    have R : ∀ (many : Int), many = 2 ∨ (many = 9 ∧ 0 < k) → WE (c (d' + 1) j ([.loc p, .int many] ++ []) S) (fun v S1 => WS ((sSeq (sIf (bAnd (bCmp eqP (eVar 2) (eLst eNil)) (bCmp ltP (eVar 3) (eC (.int 2)))) (sSeq (sAsg (eC (.int 3)) (tgN 3)) sNil) sNil) (restG (c (d' + 1)) i j)) [some (.loc p), some (.int (((k + 1 : Nat) : Int) - 1)), some (.loc q), some v, none] S1) (fin fun v S' => ∃ t : Tm, t.dep ≤ k + 1 ∧ t.Cl e ∧ v = t.pv ∧ Grow p S S')) := by
      intro many hmany
      refine (hr d' _ _ _ hp (by omega) (by omega)).imp ?_
      rintro _ S1 ⟨r, r0, r2, rfl, g1⟩
      have hq1 := g1.get (Ne.symm ne) hq
      have g2 := g1.push (.lst [])
      refine wsSeq (wsIf (wbAnd ?_))
      walk_at "ev"
      refine ⟨by show 0 ≤ LINE; decide, ?_⟩
      refine ⟨_, _, eqLstNil (datL_words fun s hs => (xyzu_gd (he s (by simpa using hs))).ok) (by omega) (grown hq1) lastS, ?_⟩
      have RG : ∀ r' : Int, (r' < 2 → e ≠ []) → (6 ≤ r' → r' < many) → WS (restG (c (d' + 1)) i j [some (.loc p), some (.int (((k + 1 : Nat) : Int) - 1)), some (.loc q), some (.int r'), none] (S1 ++ [.lst []])) (fin fun v S' => ∃ t : Tm, t.dep ≤ k + 1 ∧ t.Cl e ∧ v = t.pv ∧ Grow p S S') := fun r' h2 h6 =>
        rest_g (hr d') (k := k + 1) (fun k' h => by cases h; exact ih d' (by omega)) ne g2 he hl (g2.get (Ne.symm ne) hq) h2 (fun h => by omega) (fun h => by have := h6 h; omega)
      by_cases hee : e = []
      · refine itT (by subst hee; rfl) ?_
        walk_at "ev"
        refine ⟨_, _, ltI .., ?_⟩
        by_cases hr2 : r < 2
        · refine itT (decide_eq_true hr2) (wsSeq (wsSet (wC (wsNil ?_))))
          exact RG 3 (by omega) (by omega)
        · refine itF (decide_eq_false hr2) (wsNil ?_)
          exact RG r (fun h => absurd h hr2) (fun _ => r2)
      · have hi : (nv e.reverse).isEmpty = false := by
          cases e with
          | nil => exact absurd rfl hee
          | cons a r => simp
        rw [hi]
        refine itF rfl ?_
        refine itF rfl (wsNil ?_)
        exact RG r (fun _ => hee) (fun _ => r2)
    refine wsSeq (wsSet (wCall (wCons (wVar rfl (wCons (wIf ?_))))))
    walk_at "ev"
    refine ⟨_, _, gtI .., ?_⟩
    by_cases hk : 0 < k
    · refine itT (decide_eq_true (by omega)) ?_
      walk_at "ev"
      exact ⟨rfl, R 9 (.inr ⟨rfl, hk⟩)⟩
    · refine itF (decide_eq_false (by omega)) ?_
      walk_at "ev"
      exact ⟨rfl, R 2 (.inl rfl)⟩

/-! Ev: terms of places. -/
/-- of def 1; calls i=1 -/
def toPF (c : Oracle) (i : Nat) : SF := (sSeq (sIf (bTru (eIs ["str"] (eVar 0))) (sSeq (sRet (eIf (bCmp (inP false) (eVar 0) (eVar 1)) (eTup (eCons (eC (.str [112, 108, 97, 99, 101])) (eCons (eBin rixP (eVar 1) (eVar 0)) eNil))) (eVar 0))) sNil) sNil) (sSeq (sIf (bTru (eIs ["int"] (eVar 0))) (sSeq (sRet (eVar 0)) sNil) sNil) (sSeq (sIf (bCmp eqP (eBin ixP (eVar 0) (eC (.int 0))) (eC (.str [102, 117, 110]))) (sSeq (sRet (eTup (eCons (eC (.str [102, 117, 110])) (eCons (eCall c i 2 [] (eCons (eBin ixP (eVar 0) (eC (.int 2))) (eCons (eBin addP (eVar 1) (eTup (eCons (eBin ixP (eVar 0) (eC (.int 1))) eNil))) eNil))) eNil)))) sNil) sNil) (sSeq (sRet (eTup (eCons (eC (.str [97, 116])) (eCons (eCall c i 2 [] (eCons (eBin ixP (eVar 0) (eC (.int 1))) (eCons (eVar 1) eNil))) (eCons (eCall c i 2 [] (eCons (eBin ixP (eVar 0) (eC (.int 2))) (eCons (eVar 1) eNil))) eNil))))) sNil))))
/-- of def 26; calls i=26 -/
def placesF (c : Oracle) (i : Nat) : SF := (sSeq (sIf (bTru (eIs ["int"] (eVar 0))) (sSeq (sRet (eVar 0)) sNil) sNil) (sSeq (sIf (bTru (eIs ["str"] (eVar 0))) (sSeq (sAsg (eLc (iEn (eCons (eVar 1) eNil)) (tgT 2 (tgCons (tgN 3) (tgCons (tgN 4) tgNil))) (bCmp eqP (eVar 4) (eVar 0)) (eVar 3) [3, 4]) (tgN 2)) (sSeq (sRet (eIf (bCmp neP (eVar 2) (eLst eNil)) (eTup (eCons (eC (.str [112, 108, 97, 99, 101])) (eCons (eBin subP (eBin subP (eCl lenP (eCons (eVar 1) eNil)) (eC (.int 1))) (eBin ixP (eVar 2) (eC (.int (-1))))) eNil))) (eVar 0))) sNil)) sNil) (sSeq (sIf (bCmp eqP (eBin ixP (eVar 0) (eC (.int 0))) (eC (.str [102, 117, 110]))) (sSeq (sRet (eTup (eCons (eC (.str [102, 117, 110])) (eCons (eCall c i 2 [] (eCons (eBin ixP (eVar 0) (eC (.int 2))) (eCons (eBin addP (eVar 1) (eLst (eCons (eBin ixP (eVar 0) (eC (.int 1))) eNil))) eNil))) eNil)))) sNil) sNil) (sSeq (sRet (eTup (eCons (eC (.str [97, 116])) (eCons (eCall c i 2 [] (eCons (eBin ixP (eVar 0) (eC (.int 1))) (eCons (eVar 1) eNil))) (eCons (eCall c i 2 [] (eCons (eBin ixP (eVar 0) (eC (.int 2))) (eCons (eVar 1) eNil))) eNil))))) sNil))))
/-- of def 2; calls i=2 -/
def chkF (c : Oracle) (i : Nat) : SF := (sSeq (sIf (bTru (eIs ["str", "int"] (eVar 0))) (sSeq sRetN sNil) sNil) (sSeq (sIf (bAnd (bCmp eqP (eCl lenP (eCons (eVar 0) eNil)) (eC (.int 2))) (bCmp eqP (eBin ixP (eVar 0) (eC (.int 0))) (eC (.str [112, 108, 97, 99, 101])))) (sSeq (sIf (bNot (bChn leP ltP (eC (.int 0)) (eBin ixP (eVar 0) (eC (.int 1))) (eVar 1))) (sSeq (sRaise 1) sNil) sNil) sNil) (sSeq (sIf (bAnd (bCmp eqP (eCl lenP (eCons (eVar 0) eNil)) (eC (.int 2))) (bCmp eqP (eBin ixP (eVar 0) (eC (.int 0))) (eC (.str [102, 117, 110])))) (sSeq (sExpr (eCall c i 2 [] (eCons (eBin ixP (eVar 0) (eC (.int 1))) (eCons (eBin addP (eVar 1) (eC (.int 1))) eNil)))) sNil) (sSeq (sIf (bAnd (bCmp eqP (eCl lenP (eCons (eVar 0) eNil)) (eC (.int 3))) (bCmp eqP (eBin ixP (eVar 0) (eC (.int 0))) (eC (.str [97, 116])))) (sSeq (sExpr (eCall c i 2 [] (eCons (eBin ixP (eVar 0) (eC (.int 1))) (eCons (eVar 1) eNil)))) (sSeq (sExpr (eCall c i 2 [] (eCons (eBin ixP (eVar 0) (eC (.int 2))) (eCons (eVar 1) eNil)))) sNil)) (sSeq (sRaise 1) sNil)) sNil)) sNil)) sNil))
inductive PT where
  | fr (s : Wd) | num (k : Nat) | pl (i : Nat) | fn (b : PT) | ap (a b : PT)
def PT.pv : PT → PV
  | .fr s => .str s
  | .num k => .int k
  | .pl i => .tup [.str [112, 108, 97, 99, 101], .int i]
  | .fn b => .tup [.str [102, 117, 110], b.pv]
  | .ap a b => .tup [.str [97, 116], a.pv, b.pv]
def PT.dep : PT → Nat
  | .fr _ => 0
  | .num _ => 0
  | .pl _ => 0
  | .fn b => b.dep + 1
  | .ap a b => max a.dep b.dep + 1
/-- free names; places under so many functions -/
def PT.All (p : Wd → Prop) (q : Nat → Prop) : PT → Prop
  | .fr s => p s
  | .num k => k < 9
  | .pl i => q i
  | .fn b => b.All p q
  | .ap a b => a.All p q ∧ b.All p q
def PT.Sc : PT → Nat → Prop
  | .fr _, _ => True
  | .num _, _ => True
  | .pl i, n => i < n
  | .fn b, n => b.Sc (n + 1)
  | .ap a b, n => a.Sc n ∧ b.Sc n
def toP : Tm → List Wd → PT
  | .nm s, e => match e.findIdx? (· == s) with
    | some i => .pl i
    | none => .fr s
  | .num k, _ => .num k
  | .fn s b, e => .fn (toP b (s :: e))
  | .ap a b, e => .ap (toP a e) (toP b e)
theorem toP_dep : ∀ (t : Tm) (e : List Wd), (toP t e).dep = t.dep
  | .nm s, e => by unfold toP; split <;> rfl
  | .num _, _ => rfl
  | .fn s b, e => by show (toP b (s :: e)).dep + 1 = b.dep + 1; rw [toP_dep b]
  | .ap a b, e => by show max (toP a e).dep (toP b e).dep + 1 = _; rw [toP_dep a, toP_dep b]; rfl
theorem find_lt {s : Wd} {e : List Wd} {i : Nat} (h : e.findIdx? (· == s) = some i) : i < e.length := by
  rw [List.findIdx?_eq_some_iff_findIdx_eq] at h; exact h.1
theorem toP_sc : ∀ (t : Tm) (e : List Wd), (toP t e).Sc e.length
  | .nm s, e => by
    unfold toP
    split
    · rename_i i h; exact find_lt h
    · trivial
  | .num _, _ => trivial
  | .fn s b, e => toP_sc b (s :: e)
  | .ap a b, e => ⟨toP_sc a e, toP_sc b e⟩
theorem PT.Sc.le : ∀ {t : PT} {n m : Nat}, t.Sc n → n ≤ m → t.Sc m
  | .fr _, _, _, _, _ => trivial
  | .num _, _, _, _, _ => trivial
  | .pl i, _, _, h, k => Nat.lt_of_lt_of_le h k
  | .fn b, _, _, h, k => PT.Sc.le (t := b) h (by omega)
  | .ap a b, _, _, h, k => ⟨PT.Sc.le h.1 k, PT.Sc.le h.2 k⟩
theorem mem_find {s : Wd} {e : List Wd} : (∃ i, e.findIdx? (· == s) = some i) ↔ s ∈ e := by
  constructor
  · rintro ⟨i, h⟩
    have := List.findIdx?_eq_some_iff_getElem.mp h
    obtain ⟨hi, hs, _⟩ := this
    rw [← eq_of_beq hs]
    exact List.getElem_mem hi
  · intro h
    cases e2 : e.findIdx? (· == s) with
    | some i => exact ⟨i, rfl⟩
    | none =>
      have := List.findIdx?_eq_none_iff.mp e2 s h
      simp at this
/-! the program's way -/
theorem allStr_nv : ∀ e : List Wd, allStr (nv e) = some e
  | [] => rfl
  | s :: e => by
    show (match allStr (nv e) with
      | some l => some (s :: l)
      | none => none) = _
    rw [allStr_nv e]
theorem inF_nv (s : Wd) : ∀ e : List Wd, inF (.str s) (nv e) = decide (s ∈ e)
  | [] => rfl
  | a :: e => by
    have ih := inF_nv s e
    show (Ev.eqF (.str a) (.str s) || inF (.str s) (nv e)) = _
    rw [eqFs, ih]
    by_cases h : s = a
    · subst h; simp
    · have h' : ¬ a = s := fun e => h e.symm
      simp [h, h']
theorem flat_nv (e : List Wd) : (nv e).all flatP = true := by
  rw [List.all_eq_true]
  intro x hx
  obtain ⟨s, _, rfl⟩ := List.mem_map.mp hx
  rfl
theorem inT (neg : Bool) (s : Wd) (e : List Wd) (S : Store) : inP neg (.str s) (.tup (nv e)) S = some (.bl (if neg then !decide (s ∈ e) else decide (s ∈ e)), S) := by
  unfold inP
  simp only [flat_nv, inF_nv, flatP, Bool.and_self, if_true]
theorem rixT {s : Wd} {e : List Wd} {i : Nat} (h : e.findIdx? (· == s) = some i) (S : Store) : rixP (.tup (nv e.reverse)) (.str s) S = some (.int i, S) := by
  unfold rixP
  simp only [allStr_nv, List.reverse_reverse, h]
theorem toP_s {c : Nat → Oracle} {i : Nat} (hc : ∀ d vs S, c (d + 1) i vs S = runB 2 (toPF (c d) i) vs S) : ∀ (t : Tm) (e : List Wd) (d : Nat), t.dep < d → e.length + t.dep ≤ 100 → Pure (c d) i [t.pv, .tup (nv e.reverse)] (toP t e).pv
  | t, e, 0, h, _ => absurd h (Nat.not_lt_zero _)
  | .nm s, e, d + 1, hd, _ => .of (hc d _) fun S => by
    refine wRun ?_
    unfold toPF
    walk_at "evr"
    refine ⟨_, _, inT false .., ?_⟩
    by_cases h : s ∈ e
    · obtain ⟨j, hj⟩ := mem_find.mpr h
      refine itT (c := if false = true then !decide (s ∈ e.reverse) else decide (s ∈ e.reverse)) (by simpa using h) ?_
      walk_at "evr"
      refine .mk (rixT hj S) ?_
      walk_at "evr"
      refine ⟨by show 2 ≤ LINE; decide, ?_⟩
      refine ⟨?_, rfl⟩
      unfold toP
      rw [hj]
      rfl
    · refine itF (c := if false = true then !decide (s ∈ e.reverse) else decide (s ∈ e.reverse)) (by simpa using h) ?_
      walk_at "evr"
      refine ⟨?_, rfl⟩
      unfold toP
      rw [show e.findIdx? (· == s) = none from by
        cases e2 : e.findIdx? (· == s) with
        | none => rfl
        | some j => exact absurd (mem_find.mp ⟨j, e2⟩) h]
      rfl
  | .num k, e, d + 1, hd, _ => .of (hc d _) fun S => by
    refine wRun ?_
    unfold toPF
    walk_at "evr"
    rfl
  | .fn s b, e, d + 1, hd, hl => .of (hc d _) fun S => by
    have hl : e.length + (b.dep + 1) ≤ 100 := hl
    refine wRun ?_
    unfold toPF
    walk_at "evr"
    refine ⟨by show 1 ≤ LINE; decide, ?_⟩
    refine .mk (addT (by simp; exact small (by omega))) ?_
    walk_at "evr"
    have := toP_s hc b (s :: e) d (by have : b.dep + 1 < d + 1 := hd; omega) (by simp; omega)
    rw [show nv e.reverse ++ [PV.str s] = nv (s :: e).reverse from by simp [nv]]
    refine this.use ?_
    walk_at "evr"
    refine ⟨by show 2 ≤ LINE; decide, ?_⟩
    exact ⟨rfl, rfl⟩
  | .ap a b, e, d + 1, hd, hl => .of (hc d _) fun S => by
    have hd : max a.dep b.dep + 1 < d + 1 := hd
    have hl : e.length + (max a.dep b.dep + 1) ≤ 100 := hl
    refine wRun ?_
    unfold toPF
    walk_at "evr"
    refine (toP_s hc a e d (by omega) (by omega)).use ?_
    walk_at "evr"
    refine (toP_s hc b e d (by omega) (by omega)).use ?_
    walk_at "evr"
    refine ⟨by show 3 ≤ LINE; decide, ?_⟩
    exact ⟨rfl, rfl⟩
/-! what is of places -/
theorem chk_s {c : Nat → Oracle} {i : Nat} (hc : ∀ d vs S, c (d + 1) i vs S = runB 2 (chkF (c d) i) vs S) : ∀ (t : PT) (n d : Nat), t.dep < d → t.Sc n → Pure (c d) i [t.pv, .int n] .non
  | t, n, 0, h, _ => absurd h (Nat.not_lt_zero _)
  | .fr s, n, d + 1, hd, _ => .of (hc d _) fun S => by
    refine wRun ?_
    unfold chkF
    walk_at "evr"
    rfl
  | .num k, n, d + 1, hd, _ => .of (hc d _) fun S => by
    refine wRun ?_
    unfold chkF
    walk_at "evr"
    rfl
  | .pl j, n, d + 1, hd, hs => .of (hc d _) fun S => by
    have hs : j < n := hs
    refine wRun ?_
    unfold chkF
    walk_at "evr"
    refine itF (by show (!decide ((j : Int) < (n : Int))) = false; rw [decide_eq_true (by omega)]; rfl) ?_
    walk_at "evr"
    rfl
  | .fn b, n, d + 1, hd, hs => .of (hc d _) fun S => by
    refine wRun ?_
    unfold chkF
    walk_at "evr"
    have := chk_s hc b (n + 1) d (by have : b.dep + 1 < d + 1 := hd; omega) hs
    refine this.use ?_
    walk_at "evr"
    rfl
  | .ap a b, n, d + 1, hd, hl => .of (hc d _) fun S => by
    have hd : max a.dep b.dep + 1 < d + 1 := hd
    refine wRun ?_
    unfold chkF
    walk_at "evr"
    refine (chk_s hc a n d (by omega) hl.1).use ?_
    walk_at "evr"
    refine (chk_s hc b n d (by omega) hl.2).use ?_
    walk_at "evr"
    rfl
/-! the law's way -/
def spots (s : Wd) : Nat → List Wd → List Nat
  | _, [] => []
  | n, a :: r => if a = s then n :: spots s (n + 1) r else spots s (n + 1) r
theorem spots_app (s : Wd) : ∀ (n : Nat) (xs ys : List Wd), spots s n (xs ++ ys) = spots s n xs ++ spots s (n + xs.length) ys
  | n, [], ys => rfl
  | n, a :: r, ys => by
    have ih := spots_app s (n + 1) r ys
    have e : n + 1 + r.length = n + (r.length + 1) := by omega
    rw [e] at ih
    show (if a = s then n :: spots s (n + 1) (r ++ ys) else spots s (n + 1) (r ++ ys)) = (if a = s then n :: spots s (n + 1) r else spots s (n + 1) r) ++ _
    rw [ih]
    split <;> rfl
theorem spots_len (s : Wd) : ∀ (n : Nat) (xs : List Wd), (spots s n xs).length ≤ xs.length
  | n, [] => Nat.le_refl _
  | n, a :: r => by
    have ih := spots_len s (n + 1) r
    unfold spots
    split
    · simp; omega
    · simp; omega
theorem spots_last (s : Wd) : ∀ (e : List Wd), (∀ i, e.findIdx? (· == s) = some i → ∃ pre, spots s 0 e.reverse = pre ++ [e.length - 1 - i]) ∧ (e.findIdx? (· == s) = none → spots s 0 e.reverse = [])
  | [] => ⟨fun i h => by simp at h, fun _ => rfl⟩
  | a :: r => by
    obtain ⟨h1, h2⟩ := spots_last s r
    have e1 : spots s 0 (a :: r).reverse = spots s 0 r.reverse ++ spots s r.length [a] := by
      rw [List.reverse_cons, spots_app]
      simp
    rw [e1]
    by_cases h : a = s
    · subst h
      have e2 : spots a r.length [a] = [r.length] := by unfold spots; rw [if_pos rfl]; rfl
      rw [e2]
      refine ⟨fun i hi => ?_, fun hn => ?_⟩
      · have : i = 0 := by
          rw [List.findIdx?_cons] at hi
          simpa using hi.symm
        subst this
        exact ⟨_, rfl⟩
      · rw [List.findIdx?_cons] at hn
        simp at hn
    · have e2 : spots s r.length [a] = [] := by unfold spots; rw [if_neg h]; rfl
      rw [e2, List.append_nil]
      have hb : (a == s) = false := by simpa using h
      refine ⟨fun i hi => ?_, fun hn => ?_⟩
      · rw [List.findIdx?_cons, hb] at hi
        simp only [Bool.false_eq_true, if_false, Option.map_eq_some_iff] at hi
        obtain ⟨j, hj, rfl⟩ := hi
        obtain ⟨pre, hp⟩ := h1 j hj
        refine ⟨pre, ?_⟩
        rw [hp]
        congr 2
        simp
        omega
      · rw [List.findIdx?_cons, hb] at hn
        simp only [Bool.false_eq_true, if_false, Option.map_eq_none_iff] at hn
        exact h2 hn
abbrev iv (ns : List Nat) : List PV := ns.map fun (n : Nat) => PV.int (n : Int)
theorem nthE {S : Store} {l i : Nat} {xs : List PV} (h : S[l]? = some (.lst xs)) : nth (.enm l) i S = some (xs[i]?.map fun v => .tup [.int (i : Nat), v]) := by
  unfold nth Ev.listAt
  simp only [h]
  cases xs[i]? <;> rfl
theorem fuelE {S : Store} {l : Nat} {xs : List PV} (h : S[l]? = some (.lst xs)) : xs.length < fuelOf (.enm l) S := by
  unfold fuelOf Ev.listAt
  simp only [h]
  simp
theorem sp_loop {s : Wd} {l : Nat} {S1 : Store} {xs : List Wd} {x1 x2 : Option PV} {Q : PV → Store → Prop} (hs : okS s = true) (hx : ∀ a ∈ xs, okS a = true) (hl : l < S1.length) (h : S1[l]? = some (.lst (nv xs))) (hz : xs.length ≤ 1000) :
    ∀ (r pre : List Wd) (acc : List Nat) (n : Nat), xs = pre ++ r → r.length < n → acc.length ≤ pre.length → Q (.loc S1.length) (S1 ++ [.lst (iv (acc ++ spots s pre.length r))]) → WE (lcL (.enm l) (tgT 2 (tgCons (tgN 3) (tgCons (tgN 4) tgNil))) (bCmp eqP (eVar 4) (eVar 0)) (eVar 3) S1.length [some (.str s), x1, x2, none, none] n pre.length (S1 ++ [.lst (iv acc)])) Q
  | r, pre, acc, 0, _, h, _, _ => absurd h (Nat.not_lt_zero _)
  | [], pre, acc, n + 1, e, _, _, q => by
    refine wlcEnd ?_ (by simpa [spots] using q)
    rw [nthE (grown h), e, List.append_nil]
    simp
  | a :: r, pre, acc, n + 1, e, hn, ha, q => by
    have hn : r.length + 1 < n + 1 := hn
    have hp : pre.length + (r.length + 1) ≤ 1000 := by rw [e, List.length_append] at hz; exact hz
    have hg : (nv xs)[pre.length]? = some (.str a) := by rw [e]; simp [nv]
    refine wlcGo (v := .tup [.int (pre.length : Nat), .str a]) ?_ rfl ?_
    · rw [nthE (grown h), hg]
      rfl
    · walk_at "ev"
      refine ⟨_, _, eqStr (hx a (by rw [e]; simp)) hs _, ?_⟩
      have go : ∀ acc', acc'.length ≤ pre.length + 1 → Q (.loc S1.length) (S1 ++ [.lst (iv (acc' ++ spots s (pre.length + 1) r))]) → WE (lcL (.enm l) (tgT 2 (tgCons (tgN 3) (tgCons (tgN 4) tgNil))) (bCmp eqP (eVar 4) (eVar 0)) (eVar 3) S1.length [some (.str s), x1, x2, none, none] n (pre.length + 1) (S1 ++ [.lst (iv acc')])) Q := fun acc' h1 h2 => by
        have := sp_loop (x1 := x1) (x2 := x2) (Q := Q) hs hx hl h hz r (pre ++ [a]) acc' n (by rw [e]; simp) (by omega) (by simpa using h1)
        simp only [List.length_append, List.length_cons, List.length_nil] at this
        exact this h2
      unfold spots at q
      by_cases has : a = s
      · rw [if_pos has] at q
        refine itT (decide_eq_true has) ?_
        walk_at "ev"
        refine ⟨iv acc, lastS, by rw [List.length_map]; exact Nat.lt_of_le_of_lt (by omega : acc.length ≤ 1000) (by decide), ?_⟩
        rw [set_last]
        have := go (acc ++ [pre.length]) (by simp; omega) (by simpa using q)
        rw [show iv acc ++ [PV.int (pre.length : Nat)] = iv (acc ++ [pre.length]) from by simp [iv]]
        exact this
      · rw [if_neg has] at q
        refine itF (decide_eq_false has) ?_
        exact go acc (by omega) q
theorem neLstNil {n : Nat} {S : Store} {l k : Nat} {xs : List PV} (h : DatL n xs) (hn : n ≤ 63) (h1 : S[l]? = some (.lst xs)) (h2 : S[k]? = some (.lst [])) : neP (.loc l) (.loc k) S = some (.bl !xs.isEmpty, S) := by
  obtain ⟨ds, hds⟩ := h
  have e1 : toD S 64 (.loc l) = some (.list ds) := toD_list (m := 63) (listAt_lst h1) (hds S 63 hn)
  have e2 : toD S 64 (.loc k) = some (.list []) := toD_list (m := 63) (listAt_lst h2) rfl
  unfold neP
  simp only [e1, e2]
  rw [PyData.eqv, eqvNil, isEm (mapD_len _ _ (hds S 63 hn))]
theorem iv_dat (ns : List Nat) : DatL 0 (iv ns) := .of fun x hx => by
  obtain ⟨n, _, rfl⟩ := List.mem_map.mp hx
  exact .int _ _
theorem at_last (xs : List PV) (v : PV) : atI (xs ++ [v]) (-1) = some v := by
  unfold atI ixN
  rw [if_neg (by decide), if_pos (by simp; omega)]
  simp only [Option.bind_some]
  have : ((-1 : Int) + ((xs ++ [v]).length : Nat)).toNat = xs.length := by simp; omega
  rw [this]
  simp
theorem subI (a b : Int) (S : Store) : subP (.int a) (.int b) S = some (.int (a - b), S) := rfl
theorem places_s {c : Nat → Oracle} {i : Nat} (hc : ∀ d vs S, c (d + 1) i vs S = runB 5 (placesF (c d) i) vs S) : ∀ (t : Tm) (e : List Wd) (d : Nat) (S : Store) (l : Nat), t.dep < d → e.length + t.dep ≤ 100 → t.All (fun s => okS s = true) (fun s => okS s = true) → (∀ s ∈ e, okS s = true) → S[l]? = some (.lst (nv e.reverse)) → WE (c d i [t.pv, .loc l] S) fun w S' => w = (toP t e).pv ∧ Ext S S'
  | t, e, 0, S, l, h, _, _, _, _ => absurd h (Nat.not_lt_zero _)
  | .nm s, e, d + 1, S, l, hd, hz, ho, he, hS => by
    rw [hc]
    refine wRun ?_
    unfold placesF
    walk_at "evr"
    refine wLc ?_
    refine wBind (wCons (wVar rfl (wNil ?_)))
    simp only [listAt_lst hS]
    refine ⟨_, _, rfl, ?_⟩
    have hl : l < S.length := (List.getElem?_eq_some_iff.mp hS).1
    refine sp_loop (s := s) (xs := e.reverse) ho (fun a ha => he a (by simpa using ha)) hl hS (by simp; omega) e.reverse [] [] _ rfl ?_ (Nat.le_refl _) ?_
    · have := fuelE hS
      simpa using this
    walk_at "evr"
    refine ⟨by show 0 ≤ LINE; decide, ?_⟩
    refine ⟨_, _, neLstNil (iv_dat _) (by omega) (grown lastS) lastS, ?_⟩
    obtain ⟨h1, h2⟩ := spots_last s e
    cases hf : e.findIdx? (· == s) with
    | none =>
      have e0 := h2 hf
      simp only [List.nil_append, List.length_nil]
      rw [e0]
      refine itF rfl ?_
      walk_at "evr"
      refine ⟨by unfold toP; rw [hf]; rfl, Ext.push (Ext.push .refl _) _⟩
    | some j =>
      obtain ⟨pre, hp⟩ := h1 j hf
      have hj := find_lt hf
      simp only [List.nil_append, List.length_nil]
      rw [hp]
      refine itT (by simp [iv]) ?_
      walk_at "evr"
      refine .mk (lenL (grown (grown hS))) ?_
      walk_at "evr"
      refine .mk (ixL (grown lastS) (by rw [show iv (pre ++ [e.length - 1 - j]) = iv pre ++ [PV.int ((e.length - 1 - j : Nat) : Int)] from by simp [iv]]; exact at_last _ _)) ?_
      refine .mk (subI ..) ?_
      walk_at "evr"
      refine ⟨by show 2 ≤ LINE; decide, ?_⟩
      refine ⟨?_, Ext.push (Ext.push .refl _) _⟩
      unfold toP
      rw [hf]
      have : ((nv e.reverse).length : Int) - 1 - ((e.length - 1 - j : Nat) : Int) = (j : Int) := by simp; omega
      rw [this]
      rfl
  | .num k, e, d + 1, S, l, hd, hz, ho, he, hS => by
    rw [hc]
    refine wRun ?_
    unfold placesF
    walk_at "evr"
    exact Ext.refl
  | .fn s b, e, d + 1, S, l, hd, hz, ho, he, hS => by
    have hl : e.length + (b.dep + 1) ≤ 100 := hz
    rw [hc]
    refine wRun ?_
    unfold placesF
    walk_at "evr"
    refine ⟨by show 1 ≤ LINE; decide, ?_⟩
    refine .mk (addL (grown hS) lastS (small (by simp; omega))) ?_
    walk_at "evr"
    refine (places_s hc b (s :: e) d _ _ (by have : b.dep + 1 < d + 1 := hd; omega) (by simp; omega) ho.2 (fun a ha => ?_) (by rw [lastS]; simp [nv])).imp ?_
    · rcases List.mem_cons.mp ha with rfl | ha
      · exact ho.1
      · exact he a ha
    rintro _ S2 ⟨rfl, hx⟩
    walk_at "evr"
    refine ⟨by show 2 ≤ LINE; decide, rfl, ?_⟩
    exact Ext.trans (Ext.push (Ext.push .refl _) _) hx
  | .ap a b, e, d + 1, S, l, hd, hz, ho, he, hS => by
    have hd : max a.dep b.dep + 1 < d + 1 := hd
    have hl : e.length + (max a.dep b.dep + 1) ≤ 100 := hz
    rw [hc]
    refine wRun ?_
    unfold placesF
    walk_at "evr"
    refine (places_s hc a e d S l (by omega) (by omega) ho.1 he hS).imp ?_
    rintro _ S2 ⟨rfl, hx⟩
    walk_at "evr"
    refine (places_s hc b e d S2 l (by omega) (by omega) ho.2 he (hx.get hS)).imp ?_
    rintro _ S3 ⟨rfl, hx2⟩
    walk_at "evr"
    refine ⟨by show 3 ≤ LINE; decide, rfl, hx.trans hx2⟩

/-! Ev: free names; terms of places named. -/
/-- of def 0; calls i=0 -/
def freeF (c : Oracle) (i : Nat) : SF := (sSeq (sAsg eDn (tgN 1)) (sSeq (sIf (bTru (eIs ["str"] (eVar 0))) (sSeq (sAsg (eC (.bl true)) (tgS (eVar 1) (eVar 0))) sNil) (sSeq (sIf (bAnd (bTru (eIs ["tuple"] (eVar 0))) (bCmp eqP (eBin ixP (eVar 0) (eC (.int 0))) (eC (.str [102, 117, 110])))) (sSeq (sAsg (eDc (iOf (eCall c i 1 [] (eCons (eBin ixP (eVar 0) (eC (.int 2))) eNil))) (tgN 2) (bCmp neP (eVar 2) (eBin ixP (eVar 0) (eC (.int 1)))) (eVar 2) (eC (.bl true)) [2]) (tgN 1)) sNil) (sSeq (sIf (bTru (eIs ["tuple"] (eVar 0))) (sSeq (sAsg (eDc (iOf (eBin addP (eCall c i 1 [] (eCons (eBin ixP (eVar 0) (eC (.int 1))) eNil)) (eCall c i 1 [] (eCons (eBin ixP (eVar 0) (eC (.int 2))) eNil)))) (tgN 2) bYes (eVar 2) (eC (.bl true)) [2]) (tgN 1)) sNil) sNil) sNil)) sNil)) (sSeq (sRet (eCl tupP3 (eCons (eVar 1) eNil))) sNil)))
/-- of def 4; calls i=4 -/
def freeInF (c : Oracle) (i : Nat) : SF := (sSeq (sIf (bTru (eIs ["str"] (eVar 0))) (sSeq (sRet (eTup (eCons (eVar 0) eNil))) sNil) sNil) (sSeq (sIf (bOr (bTru (eIs ["int"] (eVar 0))) (bCmp eqP (eBin ixP (eVar 0) (eC (.int 0))) (eC (.str [112, 108, 97, 99, 101])))) (sSeq (sRet (eTup eNil)) sNil) sNil) (sSeq (sIf (bCmp eqP (eBin ixP (eVar 0) (eC (.int 0))) (eC (.str [102, 117, 110]))) (sSeq (sRet (eCall c i 1 [] (eCons (eBin ixP (eVar 0) (eC (.int 1))) eNil))) sNil) sNil) (sSeq (sRet (eCl tupP3 (eCons (eDc (iOf (eBin addP (eCall c i 1 [] (eCons (eBin ixP (eVar 0) (eC (.int 1))) eNil)) (eCall c i 1 [] (eCons (eBin ixP (eVar 0) (eC (.int 2))) eNil)))) (tgN 1) bYes (eVar 1) (eC (.bl true)) [1]) eNil))) sNil))))
/-- of def 5; calls j=6, i=5 -/
def namedF (c : Oracle) (i : Nat) (j : Nat) : SF := (sSeq (sIf (bTru (eIs ["str", "int"] (eVar 0))) (sSeq (sRet (eVar 0)) sNil) sNil) (sSeq (sIf (bCmp eqP (eBin ixP (eVar 0) (eC (.int 0))) (eC (.str [112, 108, 97, 99, 101]))) (sSeq (sRet (eBin ixP (eVar 1) (eBin subP (eBin subP (eCl lenP (eCons (eVar 1) eNil)) (eC (.int 1))) (eBin ixP (eVar 0) (eC (.int 1)))))) sNil) sNil) (sSeq (sIf (bCmp eqP (eBin ixP (eVar 0) (eC (.int 0))) (eC (.str [102, 117, 110]))) (sSeq (sAsg (eCall c j 1 [] (eCons (eBin addP (eVar 1) (eVar 2)) eNil)) (tgN 3)) (sSeq (sRet (eTup (eCons (eC (.str [102, 117, 110])) (eCons (eVar 3) (eCons (eCall c i 3 [] (eCons (eBin ixP (eVar 0) (eC (.int 1))) (eCons (eBin addP (eVar 1) (eTup (eCons (eVar 3) eNil))) (eCons (eVar 2) eNil)))) eNil))))) sNil)) sNil) (sSeq (sRet (eTup (eCons (eC (.str [97, 116])) (eCons (eCall c i 3 [] (eCons (eBin ixP (eVar 0) (eC (.int 1))) (eCons (eVar 1) (eCons (eVar 2) eNil)))) (eCons (eCall c i 3 [] (eCons (eBin ixP (eVar 0) (eC (.int 2))) (eCons (eVar 1) (eCons (eVar 2) eNil)))) eNil))))) sNil))))
/-- of def 6; calls  -/
def freshF : SF := (sSeq (sAsg (eC (.int 0)) (tgN 1)) (sSeq (whL (bTru (eC (.bl true))) (sSeq (sFor (iOf (eC (.str [97, 98, 99, 100, 101, 102, 103, 104, 105, 106, 107, 108, 109, 110, 111, 112, 113, 114, 115, 116, 117, 118, 119, 120, 121, 122]))) (tgN 2) (sSeq (sAsg (eBin addP (eVar 2) (eIf (bCmp gtP (eVar 1) (eC (.int 0))) (eUn fmtP (eVar 1)) (eC (.str [])))) (tgN 3)) (sSeq (sIf (bCmp (inP true) (eVar 3) (eVar 0)) (sSeq (sRet (eVar 3)) sNil) sNil) sNil))) (sSeq (sAug 1 iaddP (eC (.int 1))) sNil)) 100000) sNil))
/-- of def 3; calls j=2, k=5, m=4 -/
def fromF (c : Oracle) (j : Nat) (k : Nat) (m : Nat) : SF := (sSeq (sExpr (eCall c j 2 [(.int 0)] (eCons (eVar 0) eNil))) (sSeq (sRet (eCall c k 3 [] (eCons (eVar 0) (eCons (eTup eNil) (eCons (eCall c m 1 [] (eCons (eVar 0) eNil)) eNil))))) sNil))
theorem mem_ins {ks : List Wd} {n m : Wd} : m ∈ ins ks n ↔ m ∈ ks ∨ m = n := by
  unfold ins
  split
  · rename_i h
    exact ⟨.inl, fun h2 => h2.elim id fun e => e ▸ h⟩
  · simp
theorem mem_fold : ∀ (ns ks : List Wd) (m : Wd), m ∈ ns.foldl ins ks ↔ m ∈ ks ∨ m ∈ ns
  | [], ks, m => by simp
  | n :: ns, ks, m => by
    show m ∈ ns.foldl ins (ins ks n) ↔ _
    rw [mem_fold ns, mem_ins]
    simp [or_assoc]
theorem mem_dd {ns : List Wd} {m : Wd} : m ∈ dd ns ↔ m ∈ ns := by
  unfold dd
  rw [mem_fold]
  simp
theorem ins_nodup {ks : List Wd} {n : Wd} (h : ks.Nodup) : (ins ks n).Nodup := by
  unfold ins
  split
  · exact h
  · rename_i hn
    rw [List.nodup_append]
    refine ⟨h, by simp, fun a ha b hb => ?_⟩
    rw [List.mem_singleton.mp hb]
    intro e
    exact hn (e ▸ ha)
theorem fold_nodup : ∀ (ns : List Wd) {ks : List Wd}, ks.Nodup → (ns.foldl ins ks).Nodup
  | [], ks, h => h
  | n :: ns, ks, h => fold_nodup ns (ins_nodup h)
theorem dd_nodup (ns : List Wd) : (dd ns).Nodup := fold_nodup ns List.nodup_nil
theorem fold_id : ∀ (ns ks : List Wd), (ks ++ ns).Nodup → ns.foldl ins ks = ks ++ ns
  | [], ks, h => by simp
  | n :: ns, ks, h => by
    have hn : n ∉ ks := by
      rw [List.nodup_append] at h
      intro hk
      exact h.2.2 n hk n (by simp) rfl
    show ns.foldl ins (ins ks n) = _
    rw [show ins ks n = ks ++ [n] from by unfold ins; rw [if_neg hn], fold_id ns (ks ++ [n]) (by simpa using h)]
    simp
theorem dd_id {ns : List Wd} (h : ns.Nodup) : dd ns = ns := fold_id ns [] (by simpa using h)
theorem fold_filter (p : Wd → Bool) : ∀ (ns ks : List Wd), (ns.filter p).foldl ins (ks.filter p) = (ns.foldl ins ks).filter p
  | [], ks => rfl
  | n :: ns, ks => by
    have ih := fold_filter p ns (ins ks n)
    show _ = (ns.foldl ins (ins ks n)).filter p
    rw [← ih, List.filter_cons]
    cases hp : p n with
    | false =>
      simp only [Bool.false_eq_true, if_false]
      congr 1
      unfold ins
      split
      · rfl
      · rw [List.filter_append]
        simp [hp]
    | true =>
      show (ns.filter p).foldl ins (ins (ks.filter p) n) = _
      congr 1
      unfold ins
      by_cases h : n ∈ ks
      · rw [if_pos h, if_pos (by rw [List.mem_filter]; exact ⟨h, hp⟩)]
      · rw [if_neg h, if_neg (by rw [List.mem_filter]; exact fun h2 => h h2.1), List.filter_append]
        simp [hp]
theorem dd_filter (p : Wd → Bool) (ns : List Wd) : dd (ns.filter p) = (dd ns).filter p := by
  have := fold_filter p ns []
  exact this
def Tm.free : Tm → List Wd
  | .nm n => [n]
  | .num _ => []
  | .fn m b => dd (b.free.filter fun n => decide (n ≠ m))
  | .ap a b => dd (a.free ++ b.free)
def PT.free : PT → List Wd
  | .fr s => [s]
  | .num _ => []
  | .pl _ => []
  | .fn b => b.free
  | .ap a b => dd (a.free ++ b.free)
theorem Tm.free_nodup : ∀ t : Tm, t.free.Nodup
  | .nm _ => by simp [Tm.free]
  | .num _ => List.nodup_nil
  | .fn _ _ => dd_nodup _
  | .ap _ _ => dd_nodup _
theorem toP_free : ∀ (t : Tm) (e : List Wd), (toP t e).free = t.free.filter fun n => decide (n ∉ e)
  | .nm s, e => by
    unfold toP
    cases h : e.findIdx? (· == s) with
    | some i =>
      have := mem_find.mp ⟨i, h⟩
      simp [PT.free, Tm.free, this]
    | none =>
      have : s ∉ e := fun h2 => by
        obtain ⟨j, hj⟩ := mem_find.mpr h2
        rw [h] at hj; cases hj
      simp [PT.free, Tm.free, this]
  | .num _, _ => rfl
  | .fn s b, e => by
    show (toP b (s :: e)).free = (dd (b.free.filter fun n => decide (n ≠ s))).filter _
    rw [toP_free b, dd_id (b.free_nodup.filter _), List.filter_filter]
    congr 1
    funext n
    by_cases h : n = s <;> by_cases h2 : n ∈ e <;> simp [h, h2]
  | .ap a b, e => by
    show dd ((toP a e).free ++ (toP b e).free) = (dd (a.free ++ b.free)).filter _
    rw [toP_free a, toP_free b, ← List.filter_append, dd_filter]
theorem toP_free0 (t : Tm) : (toP t []).free = t.free := by
  rw [toP_free]
  simp
theorem Tm.free_len : ∀ t : Tm, t.free.length ≤ 2 ^ t.dep
  | .nm _ => Nat.le_refl _
  | .num _ => Nat.zero_le _
  | .fn m b => by
    have := b.free_len
    refine Nat.le_trans (dd_len _) (Nat.le_trans (List.length_filter_le _ _) ?_)
    show _ ≤ 2 ^ (b.dep + 1)
    rw [Nat.pow_succ]
    omega
  | .ap a b => by
    have h1 := a.free_len
    have h2 := b.free_len
    have m1 : 2 ^ a.dep ≤ 2 ^ (max a.dep b.dep) := Nat.pow_le_pow_right (by decide) (by omega)
    have m2 : 2 ^ b.dep ≤ 2 ^ (max a.dep b.dep) := Nat.pow_le_pow_right (by decide) (by omega)
    refine Nat.le_trans (dd_len _) ?_
    rw [List.length_append]
    show _ ≤ 2 ^ (max a.dep b.dep + 1)
    rw [Nat.pow_succ]
    omega
theorem PT.free_len : ∀ t : PT, t.free.length ≤ 2 ^ t.dep
  | .fr _ => Nat.le_refl _
  | .num _ => Nat.zero_le _
  | .pl _ => Nat.zero_le _
  | .fn b => by
    have := b.free_len
    show b.free.length ≤ 2 ^ (b.dep + 1)
    rw [Nat.pow_succ]
    omega
  | .ap a b => by
    have h1 := a.free_len
    have h2 := b.free_len
    have m1 : 2 ^ a.dep ≤ 2 ^ (max a.dep b.dep) := Nat.pow_le_pow_right (by decide) (by omega)
    have m2 : 2 ^ b.dep ≤ 2 ^ (max a.dep b.dep) := Nat.pow_le_pow_right (by decide) (by omega)
    refine Nat.le_trans (dd_len _) ?_
    rw [List.length_append]
    show _ ≤ 2 ^ (max a.dep b.dep + 1)
    rw [Nat.pow_succ]
    omega
theorem pow_le_10 {n : Nat} (h : n ≤ 10) : 2 ^ n ≤ 1024 := Nat.pow_le_pow_right (by decide) h
theorem nv_mem {x : PV} {ns : List Wd} (h : x ∈ nv ns) : ∃ n ∈ ns, x = .str n := by
  obtain ⟨n, hn, rfl⟩ := List.mem_map.mp h
  exact ⟨n, hn, rfl⟩
theorem fold_free (m : Wd) (ns : List Wd) : ((nv ns).filter (neN m)).foldl (fun acc x => putP acc x (.bl true)) [] = kv (.bl true) (dd (ns.filter fun n => decide (n ≠ m))) := by
  rw [filter_nv m (neN m) (neN_ok m) ns]
  exact fold_kv (.bl true) _ []
theorem fold_all (ns : List Wd) : ((nv ns).filter fun _ => true).foldl (fun acc x => putP acc x (.bl true)) [] = kv (.bl true) (dd ns) := by
  rw [filter_yes]
  exact fold_kv (.bl true) _ []
theorem Tm.free_all {p f : Wd → Prop} : ∀ {t : Tm}, t.All p f → ∀ n ∈ t.free, p n
  | .nm s, h, n, hn => by
    rw [List.mem_singleton.mp hn]; exact h
  | .num _, _, n, hn => nomatch hn
  | .fn m b, h, n, hn => by
    have := mem_dd.mp hn
    exact Tm.free_all h.2 n (List.mem_filter.mp this).1
  | .ap a b, h, n, hn => by
    have := mem_dd.mp hn
    rcases List.mem_append.mp this with h2 | h2
    · exact Tm.free_all h.1 n h2
    · exact Tm.free_all h.2 n h2
theorem free_s {c : Nat → Oracle} {i : Nat} (hc : ∀ d vs S, c (d + 1) i vs S = runB 3 (freeF (c d) i) vs S) : ∀ (t : Tm) (d : Nat), t.dep < d → t.dep ≤ 10 → t.All (fun s => okS s = true) (fun s => okS s = true) → PureJ (c d) i [t.pv] (.tup (nv t.free))
  | t, 0, h, _, _ => absurd h (Nat.not_lt_zero _)
  | .nm n, e + 1, hd, _, ho => .of (hc e _) fun S => by
    refine wRun ?_
    unfold freeF
    walk_at "evr"
    refine ⟨[some (.str n), some (.loc S.length), none], S ++ [.dic [(.str n, .bl true)]], ?_, ?_⟩
    · show (match setP (.loc S.length) (.str n) (.bl true) (S ++ [.dic []]) with | some S3 => some ([some (PV.str n), some (PV.loc S.length), none], S3) | none => none) = _
      rw [setD lastS rfl (by show 0 < 16777216; omega), set_last]
      rfl
    · walk_at "ev"
      refine .mk (tup_keys (v := .bl true) (ks := [n]) lastS) ?_
      exact ⟨rfl, _, rfl⟩
  | .num k, e + 1, hd, _, ho => .of (hc e _) fun S => by
    refine wRun ?_
    unfold freeF
    walk_at "evr"
    refine .mk (tup_keys (v := .bl true) (ks := []) lastS) ?_
    exact ⟨rfl, _, rfl⟩
  | .fn m b, e + 1, hd, h10, ho => .of (hc e _) fun S => by
    have hb : b.dep < e := by have : b.dep + 1 < e + 1 := hd; omega
    have hs : b.dep ≤ 10 := by have : b.dep + 1 ≤ 10 := h10; omega
    have hl := b.free_len
    have hz := pow_le_10 hs
    refine wRun ?_
    unfold freeF
    walk_at "evr"
    refine wDcT (xs := nv b.free) (p := neN m) (f := fun x => x) (g := fun _ => .bl true) ?_
    walk_at "evr"
    refine (free_s hc b e hb hs ho.2).use fun J => ?_
    refine ⟨rfl, by rw [List.length_map]; omega, fun x hx S' => ?_, fun x hx S' => ?_, fun x hx S' => rfl, ?_⟩
    · obtain ⟨n, hn, rfl⟩ := nv_mem hx
      show (match neP (.str n) (.str m) S' with | some (.bl k, S3) => R.ok k S3 | _ => R.bad) = _
      rw [neStr (Tm.free_all ho.2 n hn) ho.1]
      rfl
    · obtain ⟨n, hn, rfl⟩ := nv_mem hx
      exact ⟨rfl, rfl⟩
    · rw [fold_free]
      walk_at "evr"
      refine .mk (tup_keys lastS) ?_
      exact ⟨rfl, _, by simp only [List.append_assoc]; rfl⟩
  | .ap a b, e + 1, hd, h10, ho => .of (hc e _) fun S => by
    have hb : max a.dep b.dep < e := by have : max a.dep b.dep + 1 < e + 1 := hd; omega
    have hs : max a.dep b.dep ≤ 10 := by have : max a.dep b.dep + 1 ≤ 10 := h10; omega
    have hl1 := a.free_len
    have hz1 := pow_le_10 (n := a.dep) (by omega)
    have hl2 := b.free_len
    have hz2 := pow_le_10 (n := b.dep) (by omega)
    refine wRun ?_
    unfold freeF
    walk_at "evr"
    refine wDcT (xs := nv (a.free ++ b.free)) (p := fun _ => true) (f := fun x => x) (g := fun _ => .bl true) ?_
    walk_at "evr"
    refine (free_s hc a e (by omega) (by omega) ho.1).use fun J1 => ?_
    walk_at "evr"
    refine (free_s hc b e (by omega) (by omega) ho.2).use fun J2 => ?_
    refine .mk (addT (by rw [List.length_map, List.length_map]; exact small (by omega))) ?_
    refine ⟨by simp [nv], by rw [List.length_map, List.length_append]; omega, fun x hx S' => rfl, fun x hx S' => ?_, fun x hx S' => rfl, ?_⟩
    · obtain ⟨n, hn, rfl⟩ := nv_mem hx
      exact ⟨rfl, rfl⟩
    · rw [fold_all]
      walk_at "evr"
      refine .mk (tup_keys lastS) ?_
      exact ⟨rfl, _, by simp only [List.append_assoc]; rfl⟩
theorem freeIn_s {c : Nat → Oracle} {i : Nat} (hc : ∀ d vs S, c (d + 1) i vs S = runB 2 (freeInF (c d) i) vs S) : ∀ (t : PT) (d : Nat), t.dep < d → t.dep ≤ 10 → PureJ (c d) i [t.pv] (.tup (nv t.free))
  | t, 0, h, _ => absurd h (Nat.not_lt_zero _)
  | .fr n, e + 1, hd, _ => .of (hc e _) fun S => by
    refine wRun ?_
    unfold freeInF
    walk_at "evr"
    exact ⟨by show 1 ≤ LINE; decide, rfl, .refl⟩
  | .num k, e + 1, hd, _ => .of (hc e _) fun S => by
    refine wRun ?_
    unfold freeInF
    walk_at "evr"
    exact ⟨by show 0 ≤ LINE; decide, rfl, .refl⟩
  | .pl k, e + 1, hd, _ => .of (hc e _) fun S => by
    refine wRun ?_
    unfold freeInF
    walk_at "evr"
    exact ⟨by show 0 ≤ LINE; decide, rfl, .refl⟩
  | .fn b, e + 1, hd, h10 => .of (hc e _) fun S => by
    have hb : b.dep < e := by have : b.dep + 1 < e + 1 := hd; omega
    have hs : b.dep ≤ 10 := by have : b.dep + 1 ≤ 10 := h10; omega
    refine wRun ?_
    unfold freeInF
    walk_at "evr"
    refine (freeIn_s hc b e hb hs).use fun J => ?_
    exact ⟨rfl, _, rfl⟩
  | .ap a b, e + 1, hd, h10 => .of (hc e _) fun S => by
    have hb : max a.dep b.dep < e := by have : max a.dep b.dep + 1 < e + 1 := hd; omega
    have hs : max a.dep b.dep ≤ 10 := by have : max a.dep b.dep + 1 ≤ 10 := h10; omega
    have hl1 := a.free_len
    have hz1 := pow_le_10 (n := a.dep) (by omega)
    have hl2 := b.free_len
    have hz2 := pow_le_10 (n := b.dep) (by omega)
    refine wRun ?_
    unfold freeInF
    walk_at "evr"
    refine wDcT (xs := nv (a.free ++ b.free)) (p := fun _ => true) (f := fun x => x) (g := fun _ => .bl true) ?_
    walk_at "evr"
    refine (freeIn_s hc a e (by omega) (by omega)).use fun J1 => ?_
    walk_at "evr"
    refine (freeIn_s hc b e (by omega) (by omega)).use fun J2 => ?_
    refine .mk (addT (by rw [List.length_map, List.length_map]; exact small (by omega))) ?_
    refine ⟨by simp [nv], by rw [List.length_map, List.length_append]; omega, fun x hx S' => rfl, fun x hx S' => ?_, fun x hx S' => rfl, ?_⟩
    · obtain ⟨n, hn, rfl⟩ := nv_mem hx
      exact ⟨rfl, rfl⟩
    · rw [fold_all]
      walk_at "evr"
      refine .mk (tup_keys lastS) ?_
      exact ⟨rfl, _, by simp only [List.append_assoc]; rfl⟩

/-! Ev: a name that is not taken; places named. -/
abbrev abcz : Wd := [97, 98, 99, 100, 101, 102, 103, 104, 105, 106, 107, 108, 109, 110, 111, 112, 113, 114, 115, 116, 117, 118, 119, 120, 121, 122]
def fresh (taken : List Wd) : Wd := ((abcz.map fun c => [c]).find? fun s => decide (s ∉ taken)).getD []
def freshB : SF := (sSeq (sAsg (eBin addP (eVar 2) (eIf (bCmp gtP (eVar 1) (eC (.int 0))) (eUn fmtP (eVar 1)) (eC (.str [])))) (tgN 3)) (sSeq (sIf (bCmp (inP true) (eVar 3) (eVar 0)) (sSeq (sRet (eVar 3)) sNil) sNil) sNil))
theorem addS {xs ys : List Nat} {S : Store} (h : xs.length + ys.length ≤ 100000) : addP (.str xs) (.str ys) S = some (.str (xs ++ ys), S) := if_pos (small h)
theorem fresh_loop {taken : List Wd} {S : Store} {Q : Fl → Store → Prop} {w : Wd} (q : Q (.rt (.str w)) S) : ∀ (r pre : List Nat) (n : Nat) (y z : Option PV), abcz = pre ++ r → r.length < n → (r.map fun c => [c]).find? (fun s => decide (s ∉ taken)) = some w → WS (forL (.seq (chs abcz)) (tgN 2) freshB n pre.length [some (.tup (nv taken)), some (.int 0), y, z] S) Q
  | [], pre, n, y, z, e, hn, h => by simp at h
  | c :: r, pre, 0, y, z, e, hn, h => absurd hn (Nat.not_lt_zero _)
  | c :: r, pre, n + 1, y, z, e, hn, h => by
    refine wforGo (v := .str [c]) ?_ rfl ?_
    · show some (chs abcz)[pre.length]? = _
      rw [e]
      simp [chs]
    · unfold freshB
      walk_at "evr"
      refine ⟨_, _, inT true .., ?_⟩
      rw [List.map_cons, List.find?_cons] at h
      by_cases hc : [c] ∈ taken
      · refine itF (c := if true = true then !decide ([c] ++ [] ∈ taken) else decide ([c] ++ [] ∈ taken)) (by simpa using hc) (wsNil (wsNil ?_))
        have := fresh_loop q r (pre ++ [c]) n (some (.str [c])) (some (.str ([c] ++ []))) (by rw [e]; simp) (by have : r.length + 1 < n + 1 := hn; omega) (by simpa [hc] using h)
        rw [List.length_append] at this
        exact this
      · refine itT (c := if true = true then !decide ([c] ++ [] ∈ taken) else decide ([c] ++ [] ∈ taken)) (by simpa using hc) ?_
        walk_at "evr"
        have : w = [c] := by
          have := h
          simp [hc] at this
          exact this.symm
        subst this
        exact q
theorem sub_len : ∀ (xs ys : List Wd), xs.Nodup → (∀ x ∈ xs, x ∈ ys) → xs.length ≤ ys.length
  | [], ys, _, _ => Nat.zero_le _
  | x :: xs, ys, hn, hs => by
    have hx := hs x (by simp)
    have := sub_len xs (ys.erase x) (List.nodup_cons.mp hn).2 fun y hy => (List.mem_erase_of_ne (fun (e : y = x) => (List.nodup_cons.mp hn).1 (by rw [← e]; exact hy))).mpr (hs y (by simp [hy]))
    rw [List.length_erase_of_mem hx] at this
    have h2 : 0 < ys.length := List.length_pos_of_mem hx
    simp
    omega
theorem find_taken {taken : List Wd} (h : taken.length < 26) : ∃ w, (abcz.map fun c => [c]).find? (fun s => decide (s ∉ taken)) = some w := by
  cases e : (abcz.map fun c => [c]).find? (fun s => decide (s ∉ taken)) with
  | some w => exact ⟨w, rfl⟩
  | none =>
    exfalso
    have h1 : ∀ s ∈ abcz.map (fun c => [c]), s ∈ taken := fun s hs => by
      have := List.find?_eq_none.mp e s hs
      simpa using this
    have hnd : (abcz.map fun c => [c]).Nodup := by decide
    have := sub_len _ _ hnd h1
    simp at this
    omega
theorem fresh_find {taken : List Wd} (h : taken.length < 26) : (abcz.map fun c => [c]).find? (fun s => decide (s ∉ taken)) = some (fresh taken) := by
  obtain ⟨w, hw⟩ := find_taken h
  unfold fresh
  rw [hw]
  rfl
theorem fresh_new {taken : List Wd} (h : taken.length < 26) : fresh taken ∉ taken := by
  have := List.find?_some (fresh_find h)
  simpa using this
theorem fresh_gd {taken : List Wd} (h : taken.length < 26) : ∃ c ∈ abcz, fresh taken = [c] := by
  have := List.mem_of_find?_eq_some (fresh_find h)
  obtain ⟨c, hc, e⟩ := List.mem_map.mp this
  exact ⟨c, hc, e.symm⟩
theorem fresh_ok {taken : List Wd} (h : taken.length < 26) : Gd (fresh taken) := by
  obtain ⟨c, hc, e⟩ := fresh_gd h
  rw [e]
  refine ⟨by show 1 ≤ 8; decide, fun d hd => ?_⟩
  rw [List.mem_singleton.mp hd]
  have : ∀ c ∈ abcz, c < 128 := by decide
  exact this c hc
theorem fresh_s {c : Nat → Oracle} {i : Nat} (hc : ∀ d vs S, c (d + 1) i vs S = runB 4 freshF vs S) {taken : List Wd} (h : taken.length < 26) (d : Nat) : Pure (c (d + 1)) i [.tup (nv taken)] (.str (fresh taken)) := .of (hc d _) fun S => by
  refine wRun ?_
  unfold freshF
  refine wsSeq (wsSet (wC ?_))
  refine wsSeq (wwhile ?_)
  refine wbTru (wC ⟨true, rfl, itT rfl ?_⟩)
  refine wsSeq (wsFor (wOf ?_))
  refine wC ⟨_, rfl, ?_⟩
  exact fresh_loop (taken := taken) (S := S) (w := fresh taken) ⟨rfl, rfl⟩ abcz [] 27 none none rfl (by decide) (fresh_find h)
/-! places named -/
def named : PT → List Wd → List Wd → Tm
  | .fr s, _, _ => .nm s
  | .num k, _, _ => .num k
  | .pl i, e, _ => .nm (e.getD i [])
  | .fn b, e, tk => .fn (fresh (e.reverse ++ tk)) (named b (fresh (e.reverse ++ tk) :: e) tk)
  | .ap a b, e, tk => .ap (named a e tk) (named b e tk)
theorem named_dep : ∀ (t : PT) (e tk : List Wd), (named t e tk).dep = t.dep
  | .fr _, _, _ => rfl
  | .num _, _, _ => rfl
  | .pl _, _, _ => rfl
  | .fn b, e, tk => by show (named b _ tk).dep + 1 = b.dep + 1; rw [named_dep b]
  | .ap a b, e, tk => by show max (named a e tk).dep (named b e tk).dep + 1 = _; rw [named_dep a, named_dep b]; rfl
theorem named_all {p : Wd → Prop} {q : Nat → Prop} (hp : ∀ s, Gd s → p s) : ∀ (t : PT) (e tk : List Wd), t.All p q → t.Sc e.length → (∀ s ∈ e, p s) → e.length + t.dep + tk.length < 26 → (named t e tk).All p p
  | .fr s, e, tk, h, _, _, _ => h
  | .num k, e, tk, h, _, _, _ => h
  | .pl i, e, tk, h, hs, he, _ => by
    have hs : i < e.length := hs
    show p (e.getD i [])
    rw [List.getD_eq_getElem?_getD, List.getElem?_eq_getElem hs]
    exact he _ (List.getElem_mem hs)
  | .fn b, e, tk, h, hs, he, hl => by
    have hl : e.length + (b.dep + 1) + tk.length < 26 := hl
    have hf := fresh_ok (taken := e.reverse ++ tk) (by simp; omega)
    refine ⟨hp _ hf, named_all hp b _ tk h hs (fun s hs => ?_) (by simp; omega)⟩
    rcases List.mem_cons.mp hs with rfl | hs
    · exact hp _ hf
    · exact he s hs
  | .ap a b, e, tk, h, hs, he, hl => by
    have hl : e.length + (max a.dep b.dep + 1) + tk.length < 26 := hl
    exact ⟨named_all hp a e tk h.1 hs.1 he (by omega), named_all hp b e tk h.2 hs.2 he (by omega)⟩
theorem named_back : ∀ (t : PT) (e tk : List Wd), t.Sc e.length → e.Nodup → (∀ s ∈ t.free, s ∈ tk) → (∀ s ∈ e, s ∉ tk) → e.length + t.dep + tk.length < 26 → toP (named t e tk) e = t
  | .fr s, e, tk, _, _, hf, hd, _ => by
    have h1 : s ∉ e := fun h => hd s h (hf s (by simp [PT.free]))
    show toP (.nm s) e = _
    unfold toP
    cases h : e.findIdx? (· == s) with
    | none => rfl
    | some i => exact absurd (mem_find.mp ⟨i, h⟩) h1
  | .num k, e, tk, _, _, _, _, _ => rfl
  | .pl i, e, tk, hs, hn, _, _, _ => by
    have hs : i < e.length := hs
    show toP (.nm (e.getD i [])) e = _
    rw [List.getD_eq_getElem?_getD, List.getElem?_eq_getElem hs]
    show toP (.nm e[i]) e = _
    unfold toP
    have : e.findIdx? (· == e[i]) = some i := by
      rw [List.findIdx?_eq_some_iff_getElem]
      refine ⟨hs, by simp, fun j hj => ?_⟩
      have hne : e[j] ≠ e[i] := List.pairwise_iff_getElem.mp hn j i (by omega) hs hj
      simpa using hne
    rw [this]
  | .fn b, e, tk, hs, hn, hf, hd, hl => by
    have hl : e.length + (b.dep + 1) + tk.length < 26 := hl
    have hf' := fresh_new (taken := e.reverse ++ tk) (by simp; omega)
    have hf1 : fresh (e.reverse ++ tk) ∉ e := fun h => hf' (by simp [h])
    have hf2 : fresh (e.reverse ++ tk) ∉ tk := fun h => hf' (by simp [h])
    show PT.fn (toP (named b (fresh (e.reverse ++ tk) :: e) tk) (fresh (e.reverse ++ tk) :: e)) = _
    rw [named_back b (fresh (e.reverse ++ tk) :: e) tk hs (List.nodup_cons.mpr ⟨hf1, hn⟩) hf (fun s hs => ?_) (by simp; omega)]
    rcases List.mem_cons.mp hs with rfl | hs
    · exact hf2
    · exact hd s hs
  | .ap a b, e, tk, hs, hn, hf, hd, hl => by
    have hl : e.length + (max a.dep b.dep + 1) + tk.length < 26 := hl
    show PT.ap (toP (named a e tk) e) (toP (named b e tk) e) = _
    rw [named_back a e tk hs.1 hn (fun s h => hf s (mem_dd.mpr (by simp [h]))) hd (by omega), named_back b e tk hs.2 hn (fun s h => hf s (mem_dd.mpr (by simp [h]))) hd (by omega)]
theorem ixT {xs : List PV} {i : Int} {v : PV} {S : Store} (h : atI xs i = some v) : ixP (.tup xs) (.int i) S = some (v, S) := by
  unfold ixP
  simp only [h]
theorem named_s {c : Nat → Oracle} {i j : Nat} (hc : ∀ d vs S, c (d + 1) i vs S = runB 4 (namedF (c d) i j) vs S) (hj : ∀ d vs S, c (d + 1) j vs S = runB 4 freshF vs S) : ∀ (t : PT) (e tk : List Wd) (d : Nat), t.dep + 1 < d → t.Sc e.length → e.length + t.dep + tk.length < 26 → Pure (c d) i [t.pv, .tup (nv e.reverse), .tup (nv tk)] (named t e tk).pv
  | t, e, tk, 0, h, _, _ => absurd h (Nat.not_lt_zero _)
  | .fr s, e, tk, d + 1, hd, _, _ => .of (hc d _) fun S => by
    refine wRun ?_
    unfold namedF
    walk_at "evr"
    rfl
  | .num k, e, tk, d + 1, hd, _, _ => .of (hc d _) fun S => by
    refine wRun ?_
    unfold namedF
    walk_at "evr"
    rfl
  | .pl k, e, tk, d + 1, hd, hs, _ => .of (hc d _) fun S => by
    have hs : k < e.length := hs
    refine wRun ?_
    unfold namedF
    walk_at "evr"
    refine .mk (ixT (v := .str (e.getD k [])) (at_nat (by simp; omega) ?_)) ?_
    · have : (((nv e.reverse).length : Int) - 1 - (k : Int)).toNat = e.length - 1 - k := by simp
      rw [this]
      simp only [nv, List.getElem?_map]
      rw [List.getElem?_reverse (by omega)]
      rw [show e.length - 1 - (e.length - 1 - k) = k from by omega, List.getD_eq_getElem?_getD, List.getElem?_eq_getElem hs]
      rfl
    · exact ⟨rfl, rfl⟩
  | .fn b, e, tk, d + 1, hd, hs, hl => .of (hc d _) fun S => by
    have hl : e.length + (b.dep + 1) + tk.length < 26 := hl
    have hd : b.dep + 1 + 1 < d + 1 := hd
    refine wRun ?_
    unfold namedF
    walk_at "evr"
    refine .mk (addT (by simp; exact small (by omega))) ?_
    walk_at "evr"
    obtain ⟨d', rfl⟩ : ∃ d', d = d' + 1 := ⟨d - 1, by omega⟩
    refine (show Pure (c (d' + 1)) j ([.tup (nv e.reverse ++ nv tk)] ++ []) (.str (fresh (e.reverse ++ tk))) from by rw [append_nv]; exact fresh_s hj (by simp; omega) d').use ?_
    walk_at "evr"
    refine ⟨by show 1 ≤ LINE; decide, ?_⟩
    refine .mk (addT (by simp; exact small (by omega))) ?_
    walk_at "evr"
    rw [show nv e.reverse ++ [PV.str (fresh (e.reverse ++ tk))] = nv (fresh (e.reverse ++ tk) :: e).reverse from by simp [nv]]
    refine (named_s hc hj b (fresh (e.reverse ++ tk) :: e) tk (d' + 1) (by omega) hs (by simp; omega)).use ?_
    walk_at "evr"
    refine ⟨by show 3 ≤ LINE; decide, ?_⟩
    exact ⟨rfl, rfl⟩
  | .ap a b, e, tk, d + 1, hd, hs, hl => .of (hc d _) fun S => by
    have hl : e.length + (max a.dep b.dep + 1) + tk.length < 26 := hl
    have hd : max a.dep b.dep + 1 + 1 < d + 1 := hd
    refine wRun ?_
    unfold namedF
    walk_at "evr"
    refine (named_s hc hj a e tk d (by omega) hs.1 (by omega)).use ?_
    walk_at "evr"
    refine (named_s hc hj b e tk d (by omega) hs.2 (by omega)).use ?_
    walk_at "evr"
    refine ⟨by show 3 ≤ LINE; decide, ?_⟩
    exact ⟨rfl, rfl⟩
theorem from_s {c : Nat → Oracle} {i ic ij ifr im : Nat} (hc : ∀ d vs S, c (d + 1) i vs S = runB 1 (fromF (c d) ic ij im) vs S) (hcc : ∀ d vs S, c (d + 1) ic vs S = runB 2 (chkF (c d) ic) vs S) (hn : ∀ d vs S, c (d + 1) ij vs S = runB 4 (namedF (c d) ij ifr) vs S) (hf : ∀ d vs S, c (d + 1) ifr vs S = runB 4 freshF vs S) (hm : ∀ d vs S, c (d + 1) im vs S = runB 2 (freeInF (c d) im) vs S)
    (t : PT) (d : Nat) (hd : t.dep + 1 < d) (hs : t.Sc 0) (hl : t.dep + t.free.length < 26) (h10 : t.dep ≤ 10) : PureJ (c (d + 1)) i [t.pv] (named t [] t.free).pv := .of (hc d _) fun S => by
  refine wRun ?_
  unfold fromF
  walk_at "evr"
  refine (chk_s hcc t 0 d (by omega) hs).use ?_
  walk_at "evr"
  refine ⟨by show 0 ≤ LINE; decide, ?_⟩
  walk_at "evr"
  refine (freeIn_s hm t d (by omega) h10).use fun J => ?_
  walk_at "evr"
  refine (named_s hn hf t [] t.free d hd hs (by simp; omega)).use ?_
  exact ⟨rfl, _, rfl⟩

/-! Ev: places moved, put in, used. -/
/-- of def 9; calls i=9 -/
def movedF (c : Oracle) (i : Nat) : SF := (sSeq (sIf (bTru (eIs ["str", "int"] (eVar 0))) (sSeq (sRet (eVar 0)) sNil) sNil) (sSeq (sIf (bCmp eqP (eBin ixP (eVar 0) (eC (.int 0))) (eC (.str [112, 108, 97, 99, 101]))) (sSeq (sIf (bAnd (bCmp geP (eBin ixP (eVar 0) (eC (.int 1))) (eVar 2)) (bCmp ltP (eBin addP (eBin ixP (eVar 0) (eC (.int 1))) (eVar 1)) (eC (.int 0)))) (sSeq (sRaise 1) sNil) sNil) (sSeq (sRet (eIf (bCmp geP (eBin ixP (eVar 0) (eC (.int 1))) (eVar 2)) (eTup (eCons (eC (.str [112, 108, 97, 99, 101])) (eCons (eBin addP (eBin ixP (eVar 0) (eC (.int 1))) (eVar 1)) eNil))) (eVar 0))) sNil)) sNil) (sSeq (sIf (bCmp eqP (eBin ixP (eVar 0) (eC (.int 0))) (eC (.str [102, 117, 110]))) (sSeq (sRet (eTup (eCons (eC (.str [102, 117, 110])) (eCons (eCall c i 3 [] (eCons (eBin ixP (eVar 0) (eC (.int 1))) (eCons (eVar 1) (eCons (eBin addP (eVar 2) (eC (.int 1))) eNil)))) eNil)))) sNil) sNil) (sSeq (sRet (eTup (eCons (eC (.str [97, 116])) (eCons (eCall c i 3 [] (eCons (eBin ixP (eVar 0) (eC (.int 1))) (eCons (eVar 1) (eCons (eVar 2) eNil)))) (eCons (eCall c i 3 [] (eCons (eBin ixP (eVar 0) (eC (.int 2))) (eCons (eVar 1) (eCons (eVar 2) eNil)))) eNil))))) sNil))))
/-- of def 10; calls j=9, i=10 -/
def putF (c : Oracle) (i : Nat) (j : Nat) : SF := (sSeq (sIf (bTru (eIs ["str", "int"] (eVar 0))) (sSeq (sRet (eVar 0)) sNil) sNil) (sSeq (sIf (bCmp eqP (eBin ixP (eVar 0) (eC (.int 0))) (eC (.str [112, 108, 97, 99, 101]))) (sSeq (sIf (bCmp eqP (eBin ixP (eVar 0) (eC (.int 1))) (eVar 1)) (sSeq (sRet (eCall c j 3 [(.int 0)] (eCons (eVar 2) (eCons (eVar 1) eNil)))) sNil) sNil) (sSeq (sRet (eIf (bCmp gtP (eBin ixP (eVar 0) (eC (.int 1))) (eVar 1)) (eTup (eCons (eC (.str [112, 108, 97, 99, 101])) (eCons (eBin subP (eBin ixP (eVar 0) (eC (.int 1))) (eC (.int 1))) eNil))) (eVar 0))) sNil)) sNil) (sSeq (sIf (bCmp eqP (eBin ixP (eVar 0) (eC (.int 0))) (eC (.str [102, 117, 110]))) (sSeq (sRet (eTup (eCons (eC (.str [102, 117, 110])) (eCons (eCall c i 3 [] (eCons (eBin ixP (eVar 0) (eC (.int 1))) (eCons (eBin addP (eVar 1) (eC (.int 1))) (eCons (eVar 2) eNil)))) eNil)))) sNil) sNil) (sSeq (sRet (eTup (eCons (eC (.str [97, 116])) (eCons (eCall c i 3 [] (eCons (eBin ixP (eVar 0) (eC (.int 1))) (eCons (eVar 1) (eCons (eVar 2) eNil)))) (eCons (eCall c i 3 [] (eCons (eBin ixP (eVar 0) (eC (.int 2))) (eCons (eVar 1) (eCons (eVar 2) eNil)))) eNil))))) sNil))))
/-- of def 11; calls j=10 -/
def stepF (c : Oracle) (j : Nat) : SF := (sSeq (sIf (bOr (bNot (bTru (eIs ["tuple"] (eVar 0)))) (bOr (bCmp neP (eBin ixP (eVar 0) (eC (.int 0))) (eC (.str [97, 116]))) (bOr (bNot (bTru (eIs ["tuple"] (eBin ixP (eVar 0) (eC (.int 1)))))) (bCmp neP (eBin ixP (eBin ixP (eVar 0) (eC (.int 1))) (eC (.int 0))) (eC (.str [102, 117, 110])))))) (sSeq (sRaise 1) sNil) sNil) (sSeq (sRet (eCall c j 3 [] (eCons (eBin ixP (eBin ixP (eVar 0) (eC (.int 1))) (eC (.int 1))) (eCons (eC (.int 0)) (eCons (eBin ixP (eVar 0) (eC (.int 2))) eNil))))) sNil))
/-- of def 14; calls i=14 -/
def usesF (c : Oracle) (i : Nat) : SF := (sSeq (sIf (bTru (eIs ["str", "int"] (eVar 0))) (sSeq (sRet (eC (.int 0))) sNil) sNil) (sSeq (sIf (bCmp eqP (eBin ixP (eVar 0) (eC (.int 0))) (eC (.str [112, 108, 97, 99, 101]))) (sSeq (sRet (eIf (bCmp eqP (eBin ixP (eVar 0) (eC (.int 1))) (eVar 1)) (eC (.int 1)) (eC (.int 0)))) sNil) sNil) (sSeq (sIf (bCmp eqP (eBin ixP (eVar 0) (eC (.int 0))) (eC (.str [102, 117, 110]))) (sSeq (sRet (eCall c i 2 [] (eCons (eBin ixP (eVar 0) (eC (.int 1))) (eCons (eBin addP (eVar 1) (eC (.int 1))) eNil)))) sNil) sNil) (sSeq (sRet (eBin addP (eCall c i 2 [] (eCons (eBin ixP (eVar 0) (eC (.int 1))) (eCons (eVar 1) eNil))) (eCall c i 2 [] (eCons (eBin ixP (eVar 0) (eC (.int 2))) (eCons (eVar 1) eNil))))) sNil))))
/-- of def 27; calls i=27 -/
def lmovedF (c : Oracle) (i : Nat) : SF := (sSeq (sIf (bNot (bTru (eIs ["tuple"] (eVar 0)))) (sSeq (sRet (eVar 0)) sNil) sNil) (sSeq (sIf (bCmp eqP (eBin ixP (eVar 0) (eC (.int 0))) (eC (.str [112, 108, 97, 99, 101]))) (sSeq (sRet (eTup (eCons (eC (.str [112, 108, 97, 99, 101])) (eCons (eBin addP (eBin ixP (eVar 0) (eC (.int 1))) (eBin mulP (eVar 1) (eCl intP (eCons (eBin geP (eBin ixP (eVar 0) (eC (.int 1))) (eVar 2)) eNil)))) eNil)))) sNil) sNil) (sSeq (sIf (bCmp eqP (eBin ixP (eVar 0) (eC (.int 0))) (eC (.str [102, 117, 110]))) (sSeq (sRet (eTup (eCons (eC (.str [102, 117, 110])) (eCons (eCall c i 3 [] (eCons (eBin ixP (eVar 0) (eC (.int 1))) (eCons (eVar 1) (eCons (eBin addP (eVar 2) (eC (.int 1))) eNil)))) eNil)))) sNil) sNil) (sSeq (sRet (eTup (eCons (eC (.str [97, 116])) (eCons (eCall c i 3 [] (eCons (eBin ixP (eVar 0) (eC (.int 1))) (eCons (eVar 1) (eCons (eVar 2) eNil)))) (eCons (eCall c i 3 [] (eCons (eBin ixP (eVar 0) (eC (.int 2))) (eCons (eVar 1) (eCons (eVar 2) eNil)))) eNil))))) sNil))))
/-- of def 28; calls j=27, i=28 -/
def lputF (c : Oracle) (i : Nat) (j : Nat) : SF := (sSeq (sIf (bNot (bTru (eIs ["tuple"] (eVar 0)))) (sSeq (sRet (eVar 0)) sNil) sNil) (sSeq (sIf (bCmp eqP (eBin ixP (eVar 0) (eC (.int 0))) (eC (.str [112, 108, 97, 99, 101]))) (sSeq (sRet (eIf (bCmp eqP (eBin ixP (eVar 0) (eC (.int 1))) (eVar 1)) (eCall c j 3 [] (eCons (eVar 2) (eCons (eVar 1) (eCons (eC (.int 0)) eNil)))) (eTup (eCons (eC (.str [112, 108, 97, 99, 101])) (eCons (eBin subP (eBin ixP (eVar 0) (eC (.int 1))) (eCl intP (eCons (eBin gtP (eBin ixP (eVar 0) (eC (.int 1))) (eVar 1)) eNil))) eNil))))) sNil) sNil) (sSeq (sIf (bCmp eqP (eBin ixP (eVar 0) (eC (.int 0))) (eC (.str [102, 117, 110]))) (sSeq (sRet (eTup (eCons (eC (.str [102, 117, 110])) (eCons (eCall c i 3 [] (eCons (eBin ixP (eVar 0) (eC (.int 1))) (eCons (eBin addP (eVar 1) (eC (.int 1))) (eCons (eVar 2) eNil)))) eNil)))) sNil) sNil) (sSeq (sRet (eTup (eCons (eC (.str [97, 116])) (eCons (eCall c i 3 [] (eCons (eBin ixP (eVar 0) (eC (.int 1))) (eCons (eVar 1) (eCons (eVar 2) eNil)))) (eCons (eCall c i 3 [] (eCons (eBin ixP (eVar 0) (eC (.int 2))) (eCons (eVar 1) (eCons (eVar 2) eNil)))) eNil))))) sNil))))
/-- of def 32; calls i=32 -/
def lusesF (c : Oracle) (i : Nat) : SF := (sSeq (sIf (bNot (bTru (eIs ["tuple"] (eVar 0)))) (sSeq (sRet (eC (.int 0))) sNil) sNil) (sSeq (sIf (bCmp eqP (eBin ixP (eVar 0) (eC (.int 0))) (eC (.str [112, 108, 97, 99, 101]))) (sSeq (sRet (eCl intP (eCons (eBin eqP (eBin ixP (eVar 0) (eC (.int 1))) (eVar 1)) eNil))) sNil) sNil) (sSeq (sRet (eIf (bCmp eqP (eBin ixP (eVar 0) (eC (.int 0))) (eC (.str [102, 117, 110]))) (eCall c i 2 [] (eCons (eBin ixP (eVar 0) (eC (.int 1))) (eCons (eBin addP (eVar 1) (eC (.int 1))) eNil))) (eBin addP (eCall c i 2 [] (eCons (eBin ixP (eVar 0) (eC (.int 1))) (eCons (eVar 1) eNil))) (eCall c i 2 [] (eCons (eBin ixP (eVar 0) (eC (.int 2))) (eCons (eVar 1) eNil)))))) sNil)))
def PT.mv (m : Nat) : PT → Nat → PT
  | .fr s, _ => .fr s
  | .num k, _ => .num k
  | .pl i, o => if o ≤ i then .pl (i + m) else .pl i
  | .fn b, o => .fn (b.mv m (o + 1))
  | .ap a b, o => .ap (a.mv m o) (b.mv m o)
def PT.put : PT → PT → Nat → PT
  | .fr s, _, _ => .fr s
  | .num k, _, _ => .num k
  | .pl i, v, o => if i = o then v.mv o 0 else if o < i then .pl (i - 1) else .pl i
  | .fn b, v, o => .fn (b.put v (o + 1))
  | .ap a b, v, o => .ap (a.put v o) (b.put v o)
def PT.uses : PT → Nat → Nat
  | .fr s, _ => 0
  | .num k, _ => 0
  | .pl i, o => if i = o then 1 else 0
  | .fn b, o => b.uses (o + 1)
  | .ap a b, o => a.uses o + b.uses o
/-- what is moved up by one has nothing to be put in -/
theorem put_mv (v : PT) : ∀ (t : PT) (o : Nat), (t.mv 1 o).put v o = t
  | .fr s, _ => rfl
  | .num k, _ => rfl
  | .pl i, o => by
    unfold PT.mv
    split
    · unfold PT.put
      rw [if_neg (by omega), if_pos (by omega)]
      rfl
    · unfold PT.put
      rw [if_neg (by omega), if_neg (by omega)]
  | .fn b, o => by show PT.fn _ = _; rw [put_mv v b]
  | .ap a b, o => by show PT.ap _ _ = _; rw [put_mv v a, put_mv v b]
theorem mv_dep (m : Nat) : ∀ (t : PT) (o : Nat), (t.mv m o).dep = t.dep
  | .fr s, _ => rfl
  | .num k, _ => rfl
  | .pl i, o => by unfold PT.mv; split <;> rfl
  | .fn b, o => by show (b.mv m _).dep + 1 = _; rw [mv_dep m b]; rfl
  | .ap a b, o => by show max (a.mv m o).dep (b.mv m o).dep + 1 = _; rw [mv_dep m a, mv_dep m b]; rfl
theorem put_dep (v : PT) : ∀ (t : PT) (o : Nat), (t.put v o).dep ≤ t.dep + v.dep
  | .fr s, _ => Nat.zero_le _
  | .num k, _ => Nat.zero_le _
  | .pl i, o => by
    unfold PT.put
    split
    · rw [mv_dep]; omega
    · split <;> exact Nat.zero_le _
  | .fn b, o => by
    have := put_dep v b (o + 1)
    show (b.put v _).dep + 1 ≤ b.dep + 1 + v.dep
    omega
  | .ap a b, o => by
    have h1 := put_dep v a o
    have h2 := put_dep v b o
    show max (a.put v o).dep (b.put v o).dep + 1 ≤ max a.dep b.dep + 1 + v.dep
    omega
theorem geI (i j : Int) (S : Store) : geP (.int i) (.int j) S = some (.bl (decide (j ≤ i)), S) := rfl
theorem eqII (i j : Int) (S : Store) : eqP (.int i) (.int j) S = some (.bl (decide (i = j)), S) := rfl
theorem moved_s {c : Nat → Oracle} {i : Nat} (hc : ∀ d vs S, c (d + 1) i vs S = runB 3 (movedF (c d) i) vs S) (m : Nat) : ∀ (t : PT) (o d : Nat), t.dep < d → Pure (c d) i [t.pv, .int m, .int o] (t.mv m o).pv
  | t, o, 0, h => absurd h (Nat.not_lt_zero _)
  | .fr s, o, d + 1, hd => .of (hc d _) fun S => by
    refine wRun ?_
    unfold movedF
    walk_at "evr"
    rfl
  | .num k, o, d + 1, hd => .of (hc d _) fun S => by
    refine wRun ?_
    unfold movedF
    walk_at "evr"
    rfl
  | .pl j, o, d + 1, hd => .of (hc d _) fun S => by
    refine wRun ?_
    have h2 : decide ((j : Int) + (m : Int) < 0) = false := decide_eq_false (by omega)
    unfold movedF PT.mv
    by_cases h : o ≤ j
    · have h1 : decide ((o : Int) ≤ (j : Int)) = true := decide_eq_true (by omega)
      rw [if_pos h]
      walk_at "evr"
      refine itT h1 ?_
      walk_at "evr"
      refine itT h1 ?_
      walk_at "evr"
      exact ⟨by show 2 ≤ LINE; decide, rfl, rfl⟩
    · have h1 : decide ((o : Int) ≤ (j : Int)) = false := decide_eq_false (by omega)
      rw [if_neg h]
      walk_at "evr"
      refine itF h1 ?_
      walk_at "evr"
      refine itF h1 ?_
      walk_at "evr"
      rfl
  | .fn b, o, d + 1, hd => .of (hc d _) fun S => by
    have hd : b.dep + 1 < d + 1 := hd
    refine wRun ?_
    unfold movedF
    walk_at "evr"
    refine (moved_s hc m b (o + 1) d (by omega)).use ?_
    walk_at "evr"
    exact ⟨by show 2 ≤ LINE; decide, rfl, rfl⟩
  | .ap a b, o, d + 1, hd => .of (hc d _) fun S => by
    have hd : max a.dep b.dep + 1 < d + 1 := hd
    refine wRun ?_
    unfold movedF
    walk_at "evr"
    refine (moved_s hc m a o d (by omega)).use ?_
    walk_at "evr"
    refine (moved_s hc m b o d (by omega)).use ?_
    walk_at "evr"
    exact ⟨by show 3 ≤ LINE; decide, rfl, rfl⟩
def lmvE : EF := (eBin addP (eBin ixP (eVar 0) (eC (.int 1))) (eBin mulP (eVar 1) (eCl intP (eCons (eBin geP (eBin ixP (eVar 0) (eC (.int 1))) (eVar 2)) eNil))))
theorem lmv_e (j m o : Nat) (S : Store) : WE (lmvE [some (PT.pl j).pv, some (.int m), some (.int o)] S) fun w S' => w = .int ((if o ≤ j then j + m else j : Nat) : Int) ∧ S' = S := by
  have A : WE ((eBin ixP (eVar 0) (eC (.int 1))) [some (PT.pl j).pv, some (.int m), some (.int o)] S) fun w S' => w = .int j ∧ S' = S := by
    walk_at "evr"
    rfl
  have B : WE ((eCl intP (eCons (eBin geP (eBin ixP (eVar 0) (eC (.int 1))) (eVar 2)) eNil)) [some (PT.pl j).pv, some (.int m), some (.int o)] S) fun w S' => w = .int (if o ≤ j then 1 else 0) ∧ S' = S := by
    refine wCl (wCons (wBin (A.imp ?_)))
    rintro _ _ ⟨rfl, rfl⟩
    refine wVar rfl ?_
    refine .mk (geI ..) (wNil (.mk (z := .int (if decide ((o : Int) ≤ j) = true then 1 else 0)) rfl ⟨?_, rfl⟩))
    by_cases h : o ≤ j
    · rw [if_pos h, if_pos (decide_eq_true (by omega))]
    · rw [if_neg h, if_neg (by rw [decide_eq_true_eq]; omega)]
  unfold lmvE
  refine wBin (A.imp ?_)
  rintro _ _ ⟨rfl, rfl⟩
  refine wBin (wVar rfl (B.imp ?_))
  rintro _ _ ⟨rfl, rfl⟩
  by_cases h : o ≤ j
  · rw [if_pos h, if_pos h]
    refine .mk (mulI (b := 1) (by decide) (by decide)) ?_
    rw [Int.mul_one]
    exact .mk rfl ⟨rfl, rfl⟩
  · rw [if_neg h, if_neg h]
    refine .mk (mulI (b := 0) (by decide) (by decide)) ?_
    rw [Int.mul_zero]
    exact .mk rfl ⟨by rw [Int.add_zero], rfl⟩
theorem lmoved_s {c : Nat → Oracle} {i : Nat} (hc : ∀ d vs S, c (d + 1) i vs S = runB 3 (lmovedF (c d) i) vs S) (m : Nat) : ∀ (t : PT) (o d : Nat), t.dep < d → Pure (c d) i [t.pv, .int m, .int o] (t.mv m o).pv
  | t, o, 0, h => absurd h (Nat.not_lt_zero _)
  | .fr s, o, d + 1, hd => .of (hc d _) fun S => by
    refine wRun ?_
    unfold lmovedF
    walk_at "evr"
    rfl
  | .num k, o, d + 1, hd => .of (hc d _) fun S => by
    refine wRun ?_
    unfold lmovedF
    walk_at "evr"
    rfl
  | .pl j, o, d + 1, hd => .of (hc d _) fun S => by
    refine wRun ?_
    unfold lmovedF
    refine wsSeq (wsIf ?_)
    refine wbNot ?_
    refine wbTru ?_
    refine wIs (t := "") ?_
    refine wVar rfl ?_
    refine ⟨_, rfl, ?_⟩
    refine ⟨_, rfl, ?_⟩
    refine itF rfl ?_
    refine wsNil ?_
    refine wsSeq (wsIf ?_)
    refine wbCmp ?_
    refine wBin ?_
    refine wVar rfl ?_
    refine wC ?_
    refine .mk rfl ?_
    refine wC ?_
    refine ⟨_, _, rfl, ?_⟩
    refine itT rfl ?_
    refine wsSeq (wsRet (wTup (wCons (wC (wCons ?_)))))
    refine (lmv_e j m o S).imp ?_
    rintro _ _ ⟨rfl, rfl⟩
    refine wNil ⟨by show 2 ≤ LINE; decide, ?_, rfl⟩
    unfold PT.mv
    split <;> rfl
  | .fn b, o, d + 1, hd => .of (hc d _) fun S => by
    have hd : b.dep + 1 < d + 1 := hd
    refine wRun ?_
    unfold lmovedF
    walk_at "evr"
    refine (lmoved_s hc m b (o + 1) d (by omega)).use ?_
    walk_at "evr"
    exact ⟨by show 2 ≤ LINE; decide, rfl, rfl⟩
  | .ap a b, o, d + 1, hd => .of (hc d _) fun S => by
    have hd : max a.dep b.dep + 1 < d + 1 := hd
    refine wRun ?_
    unfold lmovedF
    walk_at "evr"
    refine (lmoved_s hc m a o d (by omega)).use ?_
    walk_at "evr"
    refine (lmoved_s hc m b o d (by omega)).use ?_
    walk_at "evr"
    exact ⟨by show 3 ≤ LINE; decide, rfl, rfl⟩
theorem put_s {c : Nat → Oracle} {i j : Nat} (hc : ∀ d vs S, c (d + 1) i vs S = runB 3 (putF (c d) i j) vs S) (hj : ∀ d vs S, c (d + 1) j vs S = runB 3 (movedF (c d) j) vs S) (v : PT) : ∀ (t : PT) (o d : Nat), t.dep + v.dep + 1 < d → Pure (c d) i [t.pv, .int o, v.pv] (t.put v o).pv
  | t, o, 0, h => absurd h (Nat.not_lt_zero _)
  | .fr s, o, d + 1, hd => .of (hc d _) fun S => by
    refine wRun ?_
    unfold putF
    walk_at "evr"
    rfl
  | .num k, o, d + 1, hd => .of (hc d _) fun S => by
    refine wRun ?_
    unfold putF
    walk_at "evr"
    rfl
  | .pl k, o, d + 1, hd => .of (hc d _) fun S => by
    have hd : 0 + v.dep + 1 < d + 1 := hd
    refine wRun ?_
    unfold putF PT.put
    by_cases h : k = o
    · have h1 : decide ((k : Int) = (o : Int)) = true := decide_eq_true (by omega)
      rw [if_pos h]
      walk_at "evr"
      refine itT h1 ?_
      walk_at "evr"
      refine (moved_s hj o v 0 d (by omega)).use ?_
      exact ⟨rfl, rfl⟩
    · have h1 : decide ((k : Int) = (o : Int)) = false := decide_eq_false (by omega)
      rw [if_neg h]
      walk_at "evr"
      refine itF h1 ?_
      walk_at "evr"
      by_cases h2 : o < k
      · rw [if_pos h2]
        refine itT (decide_eq_true (by omega)) ?_
        walk_at "evr"
        refine ⟨by show 2 ≤ LINE; decide, ?_, rfl⟩
        rw [show (k : Int) - 1 = ((k - 1 : Nat) : Int) from by omega]
        rfl
      · rw [if_neg h2]
        refine itF (decide_eq_false (by omega)) ?_
        walk_at "evr"
        rfl
  | .fn b, o, d + 1, hd => .of (hc d _) fun S => by
    have hd : b.dep + 1 + v.dep + 1 < d + 1 := hd
    refine wRun ?_
    unfold putF
    walk_at "evr"
    refine (put_s hc hj v b (o + 1) d (by omega)).use ?_
    walk_at "evr"
    exact ⟨by show 2 ≤ LINE; decide, rfl, rfl⟩
  | .ap a b, o, d + 1, hd => .of (hc d _) fun S => by
    have hd : max a.dep b.dep + 1 + v.dep + 1 < d + 1 := hd
    refine wRun ?_
    unfold putF
    walk_at "evr"
    refine (put_s hc hj v a o d (by omega)).use ?_
    walk_at "evr"
    refine (put_s hc hj v b o d (by omega)).use ?_
    walk_at "evr"
    exact ⟨by show 3 ≤ LINE; decide, rfl, rfl⟩
theorem lput_s {c : Nat → Oracle} {i j : Nat} (hc : ∀ d vs S, c (d + 1) i vs S = runB 3 (lputF (c d) i j) vs S) (hj : ∀ d vs S, c (d + 1) j vs S = runB 3 (lmovedF (c d) j) vs S) (v : PT) : ∀ (t : PT) (o d : Nat), t.dep + v.dep + 1 < d → Pure (c d) i [t.pv, .int o, v.pv] (t.put v o).pv
  | t, o, 0, h => absurd h (Nat.not_lt_zero _)
  | .fr s, o, d + 1, hd => .of (hc d _) fun S => by
    refine wRun ?_
    unfold lputF
    walk_at "evr"
    rfl
  | .num k, o, d + 1, hd => .of (hc d _) fun S => by
    refine wRun ?_
    unfold lputF
    walk_at "evr"
    rfl
  | .pl k, o, d + 1, hd => .of (hc d _) fun S => by
    have hd : 0 + v.dep + 1 < d + 1 := hd
    refine wRun ?_
    unfold lputF PT.put
    by_cases h : k = o
    · have h1 : decide ((k : Int) = (o : Int)) = true := decide_eq_true (by omega)
      rw [if_pos h]
      walk_at "evr"
      refine itT h1 ?_
      walk_at "evr"
      refine (lmoved_s hj o v 0 d (by omega)).use ?_
      exact ⟨rfl, rfl⟩
    · have h1 : decide ((k : Int) = (o : Int)) = false := decide_eq_false (by omega)
      rw [if_neg h]
      walk_at "evr"
      refine itF h1 ?_
      walk_at "evr"
      refine ⟨by show 2 ≤ LINE; decide, ?_, rfl⟩
      show PV.tup [.str [112, 108, 97, 99, 101], .int ((k : Int) - if decide ((o : Int) < (k : Int)) = true then 1 else 0)] = _
      by_cases h2 : o < k
      · rw [if_pos h2, if_pos (decide_eq_true (by omega)), show (k : Int) - 1 = ((k - 1 : Nat) : Int) from by omega]
        rfl
      · rw [if_neg h2, if_neg (by rw [decide_eq_true_eq]; omega), Int.sub_zero]
        rfl
  | .fn b, o, d + 1, hd => .of (hc d _) fun S => by
    have hd : b.dep + 1 + v.dep + 1 < d + 1 := hd
    refine wRun ?_
    unfold lputF
    walk_at "evr"
    refine (lput_s hc hj v b (o + 1) d (by omega)).use ?_
    walk_at "evr"
    exact ⟨by show 2 ≤ LINE; decide, rfl, rfl⟩
  | .ap a b, o, d + 1, hd => .of (hc d _) fun S => by
    have hd : max a.dep b.dep + 1 + v.dep + 1 < d + 1 := hd
    refine wRun ?_
    unfold lputF
    walk_at "evr"
    refine (lput_s hc hj v a o d (by omega)).use ?_
    walk_at "evr"
    refine (lput_s hc hj v b o d (by omega)).use ?_
    walk_at "evr"
    exact ⟨by show 3 ≤ LINE; decide, rfl, rfl⟩
theorem uses_s {c : Nat → Oracle} {i : Nat} (hc : ∀ d vs S, c (d + 1) i vs S = runB 2 (usesF (c d) i) vs S) : ∀ (t : PT) (o d : Nat), t.dep < d → Pure (c d) i [t.pv, .int o] (.int (t.uses o))
  | t, o, 0, h => absurd h (Nat.not_lt_zero _)
  | .fr s, o, d + 1, hd => .of (hc d _) fun S => by
    refine wRun ?_
    unfold usesF
    walk_at "evr"
    rfl
  | .num k, o, d + 1, hd => .of (hc d _) fun S => by
    refine wRun ?_
    unfold usesF
    walk_at "evr"
    rfl
  | .pl k, o, d + 1, hd => .of (hc d _) fun S => by
    refine wRun ?_
    unfold usesF PT.uses
    walk_at "evr"
    by_cases h : k = o
    · rw [if_pos h]
      refine itT (decide_eq_true (by omega)) ?_
      walk_at "evr"
      rfl
    · rw [if_neg h]
      refine itF (decide_eq_false (by omega)) ?_
      walk_at "evr"
      rfl
  | .fn b, o, d + 1, hd => .of (hc d _) fun S => by
    have hd : b.dep + 1 < d + 1 := hd
    refine wRun ?_
    unfold usesF
    walk_at "evr"
    refine (uses_s hc b (o + 1) d (by omega)).use ?_
    exact ⟨rfl, rfl⟩
  | .ap a b, o, d + 1, hd => .of (hc d _) fun S => by
    have hd : max a.dep b.dep + 1 < d + 1 := hd
    refine wRun ?_
    unfold usesF
    walk_at "evr"
    refine (uses_s hc a o d (by omega)).use ?_
    walk_at "evr"
    refine (uses_s hc b o d (by omega)).use ?_
    walk_at "evr"
    rfl
theorem luses_s {c : Nat → Oracle} {i : Nat} (hc : ∀ d vs S, c (d + 1) i vs S = runB 2 (lusesF (c d) i) vs S) : ∀ (t : PT) (o d : Nat), t.dep < d → Pure (c d) i [t.pv, .int o] (.int (t.uses o))
  | t, o, 0, h => absurd h (Nat.not_lt_zero _)
  | .fr s, o, d + 1, hd => .of (hc d _) fun S => by
    refine wRun ?_
    unfold lusesF
    walk_at "evr"
    rfl
  | .num k, o, d + 1, hd => .of (hc d _) fun S => by
    refine wRun ?_
    unfold lusesF
    walk_at "evr"
    rfl
  | .pl k, o, d + 1, hd => .of (hc d _) fun S => by
    refine wRun ?_
    unfold lusesF PT.uses
    walk_at "evr"
    refine ⟨?_, rfl⟩
    show PV.int (if decide ((k : Int) = (o : Int)) = true then 1 else 0) = _
    by_cases h : k = o
    · rw [if_pos h, if_pos (decide_eq_true (by omega))]
      rfl
    · rw [if_neg h, if_neg (by rw [decide_eq_true_eq]; omega)]
      rfl
  | .fn b, o, d + 1, hd => .of (hc d _) fun S => by
    have hd : b.dep + 1 < d + 1 := hd
    refine wRun ?_
    unfold lusesF
    walk_at "evr"
    refine (luses_s hc b (o + 1) d (by omega)).use ?_
    exact ⟨rfl, rfl⟩
  | .ap a b, o, d + 1, hd => .of (hc d _) fun S => by
    have hd : max a.dep b.dep + 1 < d + 1 := hd
    refine wRun ?_
    unfold lusesF
    walk_at "evr"
    refine (luses_s hc a o d (by omega)).use ?_
    walk_at "evr"
    refine (luses_s hc b o d (by omega)).use ?_
    walk_at "evr"
    rfl
theorem step_s {c : Nat → Oracle} {i j k : Nat} (hc : ∀ d vs S, c (d + 1) i vs S = runB 1 (stepF (c d) j) vs S) (hj : ∀ d vs S, c (d + 1) j vs S = runB 3 (putF (c d) j k) vs S) (hk : ∀ d vs S, c (d + 1) k vs S = runB 3 (movedF (c d) k) vs S) (t v : PT) (d : Nat) (hd : t.dep + v.dep + 1 < d) : Pure (c (d + 1)) i [(PT.ap (.fn t) v).pv] (t.put v 0).pv := .of (hc d _) fun S => by
  refine wRun ?_
  unfold stepF
  walk_at "evr"
  exact (put_s hj hk v t 0 d (by omega)).use ⟨rfl, rfl⟩

/-! Ev: terms of places as text and as bits; functions within functions. -/
/-- of def 12; calls j=13 -/
def shortF (c : Oracle) (j : Nat) : SF := (sSeq (sAsg (eCall c j 1 [] (eCons (eVar 0) eNil)) (tgN 1)) (sSeq (sRet (eIf (bAnd (bTru (eIs ["tuple"] (eVar 0))) (bCmp eqP (eBin ixP (eVar 0) (eC (.int 0))) (eC (.str [97, 116])))) (eSl (eVar 1) (oSo (eC (.int 1))) (oSo (eC (.int (-1))))) (eVar 1))) sNil))
/-- of def 13; calls i=13 -/
def withinF (c : Oracle) (i : Nat) : SF := (sSeq (sIf (bTru (eIs ["str", "int"] (eVar 0))) (sSeq (sRet (eUn fmtP (eVar 0))) sNil) sNil) (sSeq (sIf (bCmp eqP (eBin ixP (eVar 0) (eC (.int 0))) (eC (.str [112, 108, 97, 99, 101]))) (sSeq (sRet (eJs [(eC (.str [35])), (eUn fmtP (eBin ixP (eVar 0) (eC (.int 1))))])) sNil) sNil) (sSeq (sIf (bCmp eqP (eBin ixP (eVar 0) (eC (.int 0))) (eC (.str [102, 117, 110]))) (sSeq (sRet (eBin addP (eC (.str [33])) (eCall c i 1 [] (eCons (eBin ixP (eVar 0) (eC (.int 1))) eNil)))) sNil) sNil) (sSeq (sRet (eBin addP (eBin addP (eBin addP (eBin addP (eC (.str [40])) (eCall c i 1 [] (eCons (eBin ixP (eVar 0) (eC (.int 1))) eNil))) (eC (.str [32]))) (eCall c i 1 [] (eCons (eBin ixP (eVar 0) (eC (.int 2))) eNil))) (eC (.str [41])))) sNil))))
/-- of def 30; calls i=30 -/
def ltextF (c : Oracle) (i : Nat) : SF := (sSeq (sIf (bNot (bTru (eIs ["tuple"] (eVar 0)))) (sSeq (sRet (eCl strP (eCons (eVar 0) eNil))) sNil) sNil) (sSeq (sIf (bCmp eqP (eBin ixP (eVar 0) (eC (.int 0))) (eC (.str [112, 108, 97, 99, 101]))) (sSeq (sRet (eBin addP (eC (.str [35])) (eCl strP (eCons (eBin ixP (eVar 0) (eC (.int 1))) eNil)))) sNil) sNil) (sSeq (sRet (eIf (bCmp eqP (eBin ixP (eVar 0) (eC (.int 0))) (eC (.str [102, 117, 110]))) (eBin addP (eC (.str [33])) (eCall c i 1 [] (eCons (eBin ixP (eVar 0) (eC (.int 1))) eNil))) (eBin addP (eBin addP (eBin addP (eBin addP (eC (.str [40])) (eCall c i 1 [] (eCons (eBin ixP (eVar 0) (eC (.int 1))) eNil))) (eC (.str [32]))) (eCall c i 1 [] (eCons (eBin ixP (eVar 0) (eC (.int 2))) eNil))) (eC (.str [41]))))) sNil)))
/-- of def 15; calls i=15 -/
def bitsF (c : Oracle) (i : Nat) : SF := (sSeq (sIf (bTru (eIs ["str", "int"] (eVar 0))) (sSeq (sRaise 1) sNil) sNil) (sSeq (sIf (bCmp eqP (eBin ixP (eVar 0) (eC (.int 0))) (eC (.str [112, 108, 97, 99, 101]))) (sSeq (sRet (eBin addP (eBin mulP (eC (.str [49])) (eBin addP (eBin ixP (eVar 0) (eC (.int 1))) (eC (.int 1)))) (eC (.str [48])))) sNil) sNil) (sSeq (sIf (bCmp eqP (eBin ixP (eVar 0) (eC (.int 0))) (eC (.str [102, 117, 110]))) (sSeq (sRet (eBin addP (eC (.str [48, 48])) (eCall c i 1 [] (eCons (eBin ixP (eVar 0) (eC (.int 1))) eNil)))) sNil) sNil) (sSeq (sRet (eBin addP (eBin addP (eC (.str [48, 49])) (eCall c i 1 [] (eCons (eBin ixP (eVar 0) (eC (.int 1))) eNil))) (eCall c i 1 [] (eCons (eBin ixP (eVar 0) (eC (.int 2))) eNil)))) sNil))))
/-- of def 31; calls i=31 -/
def lbitsF (c : Oracle) (i : Nat) : SF := (sSeq (sIf (bCmp eqP (eBin ixP (eVar 0) (eC (.int 0))) (eC (.str [112, 108, 97, 99, 101]))) (sSeq (sRet (eBin addP (eBin mulP (eC (.str [49])) (eBin ixP (eVar 0) (eC (.int 1)))) (eC (.str [49, 48])))) sNil) sNil) (sSeq (sRet (eIf (bCmp eqP (eBin ixP (eVar 0) (eC (.int 0))) (eC (.str [102, 117, 110]))) (eBin addP (eC (.str [48, 48])) (eCall c i 1 [] (eCons (eBin ixP (eVar 0) (eC (.int 1))) eNil))) (eBin addP (eBin addP (eC (.str [48, 49])) (eCall c i 1 [] (eCons (eBin ixP (eVar 0) (eC (.int 1))) eNil))) (eCall c i 1 [] (eCons (eBin ixP (eVar 0) (eC (.int 2))) eNil))))) sNil))
/-- of def 18; calls i=18 -/
def needF (c : Oracle) (i : Nat) : SF := (sSeq (sIf (bTru (eIs ["str", "int"] (eVar 0))) (sSeq (sRet (eC (.int 0))) sNil) sNil) (sSeq (sIf (bCmp eqP (eBin ixP (eVar 0) (eC (.int 0))) (eC (.str [102, 117, 110]))) (sSeq (sRet (eBin addP (eC (.int 1)) (eCall c i 1 [] (eCons (eBin ixP (eVar 0) (eC (.int 2))) eNil)))) sNil) sNil) (sSeq (sRet (eCl maxP2 (eCons (eCall c i 1 [] (eCons (eBin ixP (eVar 0) (eC (.int 1))) eNil)) (eCons (eCall c i 1 [] (eCons (eBin ixP (eVar 0) (eC (.int 2))) eNil)) eNil)))) sNil)))
def istrOk (i : Nat) : Bool := okS (istr i) && decide ((istr i).length ≤ 20)
theorem istr_all : ∀ i : _root_.Fin 200, istrOk i.val = true := by decide +kernel
theorem istr_small {i : Nat} (h : i < 200) : okS (istr i) = true ∧ (istr i).length ≤ 20 := by
  have := istr_all ⟨i, h⟩
  unfold istrOk at this
  simp only [Bool.and_eq_true, decide_eq_true_eq] at this
  exact this
theorem log_small {i : Nat} (h : i < 200) : ((i : Nat) : Int).natAbs.log2 < 1920 := by
  have h1 : ((i : Nat) : Int).natAbs = i := rfl
  rw [h1]
  by_cases h0 : i = 0
  · subst h0; decide
  · have := (Nat.log2_lt (k := 8) h0).mpr (Nat.lt_of_lt_of_le h (by decide))
    omega
theorem fmtI {i : Nat} (h : i < 200) (S : Store) : fmtP (.int i) S = some (.str (istr i), S) := if_pos (log_small h)
theorem strI {i : Nat} (h : i < 200) (S : Store) : strP [.int i] S = some (.str (istr i), S) := if_pos (log_small h)
theorem fmtS {s : Wd} (h : s.length ≤ 100000) (S : Store) : fmtP (.str s) S = some (.str s, S) := if_pos (small h)
def PT.text : PT → Wd
  | .fr s => s
  | .num k => istr k
  | .pl i => [35] ++ istr i
  | .fn b => [33] ++ b.text
  | .ap a b => [40] ++ a.text ++ [32] ++ b.text ++ [41]
abbrev PT.Ok (t : PT) : Prop := t.All Gd (· < 100)
theorem PT.All.imp {p p' : Wd → Prop} {q q' : Nat → Prop} (h1 : ∀ s, p s → p' s) (h2 : ∀ i, q i → q' i) : ∀ {t : PT}, t.All p q → t.All p' q'
  | .fr _, h => h1 _ h
  | .num _, h => h
  | .pl _, h => h2 _ h
  | .fn b, h => PT.All.imp (t := b) h1 h2 h
  | .ap _ _, h => ⟨PT.All.imp h1 h2 h.1, PT.All.imp h1 h2 h.2⟩
theorem PT.text_len : ∀ t : PT, t.Ok → t.text.length + 3 ≤ 24 * 2 ^ t.dep
  | .fr s, h => by
    have : s.length ≤ 8 := h.1
    show s.length + 3 ≤ 24 * 1
    omega
  | .num k, h => by
    have h : k < 9 := h
    have := (istr_small (i := k) (by omega)).2
    show (istr k).length + 3 ≤ 24 * 1
    omega
  | .pl i, h => by
    have h : i < 100 := h
    have := (istr_small (i := i) (by omega)).2
    show (istr i).length + 1 + 3 ≤ 24 * 1
    omega
  | .fn b, h => by
    have h1 := PT.text_len b h
    have : 0 < 2 ^ b.dep := Nat.pos_of_ne_zero (by simp)
    show b.text.length + 1 + 3 ≤ 24 * 2 ^ (b.dep + 1)
    rw [Nat.pow_succ]
    omega
  | .ap a b, h => by
    have h1 := PT.text_len a h.1
    have h2 := PT.text_len b h.2
    have m1 : 2 ^ a.dep ≤ 2 ^ (max a.dep b.dep) := Nat.pow_le_pow_right (by decide) (by omega)
    have m2 : 2 ^ b.dep ≤ 2 ^ (max a.dep b.dep) := Nat.pow_le_pow_right (by decide) (by omega)
    show ([40] ++ a.text ++ [32] ++ b.text ++ [41]).length + 3 ≤ 24 * 2 ^ (max a.dep b.dep + 1)
    rw [Nat.pow_succ]
    simp only [List.length_append, List.length_cons, List.length_nil]
    omega
theorem PT.text_le {t : PT} (h : t.Ok) (hd : t.dep ≤ 10) : t.text.length ≤ 30000 := by
  have h1 := t.text_len h
  have h2 := pow_le_10 hd
  omega
theorem wJs2 {a b : EF} {ρ : Env'} {S : Store} {Q : PV → Store → Prop} (h : WE (a ρ S) fun v S1 => ∃ s, v = .str s ∧ WE (b ρ S1) fun w S2 => ∃ u, w = .str u ∧ s.length + u.length ≤ 100000 ∧ Q (.str (s ++ u)) S2) : WE (eJs [a, b] ρ S) Q := by
  obtain ⟨_, S1, e1, s, rfl, _, S2, e2, u, rfl, hl, q⟩ := h
  refine ⟨.str (s ++ u), S2, ?_, q⟩
  show (a ρ S).bind (fun v S1 => match v with
    | .str s => if ([] : List Nat).length + s.length ≤ LINE then jsL [b] ([] ++ s) ρ S1 else .bad
    | _ => .bad) = _
  rw [e1]
  show (if ([] : List Nat).length + s.length ≤ LINE then jsL [b] ([] ++ s) ρ S1 else .bad) = _
  rw [if_pos (by simp; exact small (by omega))]
  show (b ρ S1).bind (fun v S1 => match v with
    | .str u => if ([] ++ s).length + u.length ≤ LINE then jsL [] ([] ++ s ++ u) ρ S1 else .bad
    | _ => .bad) = _
  rw [e2]
  show (if ([] ++ s).length + u.length ≤ LINE then jsL [] ([] ++ s ++ u) ρ S2 else .bad) = _
  rw [if_pos (by simp; exact small (by omega))]
  rfl
theorem within_s {c : Nat → Oracle} {i : Nat} (hc : ∀ d vs S, c (d + 1) i vs S = runB 1 (withinF (c d) i) vs S) : ∀ (t : PT) (d : Nat), t.dep < d → t.dep ≤ 10 → t.Ok → Pure (c d) i [t.pv] (.str t.text)
  | t, 0, h, _, _ => absurd h (Nat.not_lt_zero _)
  | .fr s, d + 1, hd, h10, ho => .of (hc d _) fun S => by
    refine wRun ?_
    unfold withinF
    walk_at "evr"
    refine .mk (fmtS (by have := ho.1; omega) S) ?_
    exact ⟨rfl, rfl⟩
  | .num k, d + 1, hd, h10, ho => .of (hc d _) fun S => by
    have ho : k < 9 := ho
    refine wRun ?_
    unfold withinF
    walk_at "evr"
    refine .mk (fmtI (by omega) S) ?_
    exact ⟨rfl, rfl⟩
  | .pl k, d + 1, hd, h10, ho => .of (hc d _) fun S => by
    have ho : k < 100 := ho
    have hl := (istr_small (i := k) (by omega)).2
    refine wRun ?_
    unfold withinF
    walk_at "evr"
    refine wJs2 ?_
    walk_at "evr"
    refine .mk (fmtI (by omega) S) ?_
    exact ⟨_, rfl, by simp; omega, rfl, rfl⟩
  | .fn b, d + 1, hd, h10, ho => .of (hc d _) fun S => by
    have hd : b.dep + 1 < d + 1 := hd
    have h10 : b.dep + 1 ≤ 10 := h10
    have hl := PT.text_le (t := b) ho (by omega)
    refine wRun ?_
    unfold withinF
    walk_at "evr"
    refine (within_s hc b d (by omega) (by omega) ho).use ?_
    refine .mk (addS (by simp; omega)) ?_
    exact ⟨rfl, rfl⟩
  | .ap a b, d + 1, hd, h10, ho => .of (hc d _) fun S => by
    have hd : max a.dep b.dep + 1 < d + 1 := hd
    have h10 : max a.dep b.dep + 1 ≤ 10 := h10
    have hl1 := PT.text_le (t := a) ho.1 (by omega)
    have hl2 := PT.text_le (t := b) ho.2 (by omega)
    refine wRun ?_
    unfold withinF
    walk_at "evr"
    refine (within_s hc a d (by omega) (by omega) ho.1).use ?_
    refine .mk (addS (by simp; omega)) ?_
    walk_at "evr"
    refine .mk (addS (by simp; omega)) ?_
    walk_at "evr"
    refine (within_s hc b d (by omega) (by omega) ho.2).use ?_
    refine .mk (addS (by simp; omega)) ?_
    walk_at "evr"
    refine .mk (addS (by simp; omega)) ?_
    exact ⟨rfl, rfl⟩
theorem ltext_s {c : Nat → Oracle} {i : Nat} (hc : ∀ d vs S, c (d + 1) i vs S = runB 1 (ltextF (c d) i) vs S) : ∀ (t : PT) (d : Nat), t.dep < d → t.dep ≤ 10 → t.Ok → Pure (c d) i [t.pv] (.str t.text)
  | t, 0, h, _, _ => absurd h (Nat.not_lt_zero _)
  | .fr s, d + 1, hd, h10, ho => .of (hc d _) fun S => by
    refine wRun ?_
    unfold ltextF
    walk_at "evr"
    rfl
  | .num k, d + 1, hd, h10, ho => .of (hc d _) fun S => by
    have ho : k < 9 := ho
    refine wRun ?_
    unfold ltextF
    walk_at "evr"
    refine .mk (strI (by omega) S) ?_
    exact ⟨rfl, rfl⟩
  | .pl k, d + 1, hd, h10, ho => .of (hc d _) fun S => by
    have ho : k < 100 := ho
    have hl := (istr_small (i := k) (by omega)).2
    refine wRun ?_
    unfold ltextF
    walk_at "evr"
    refine .mk (strI (by omega) S) ?_
    refine .mk (addS (by simp; omega)) ?_
    exact ⟨rfl, rfl⟩
  | .fn b, d + 1, hd, h10, ho => .of (hc d _) fun S => by
    have hd : b.dep + 1 < d + 1 := hd
    have h10 : b.dep + 1 ≤ 10 := h10
    have hl := PT.text_le (t := b) ho (by omega)
    refine wRun ?_
    unfold ltextF
    walk_at "evr"
    refine (ltext_s hc b d (by omega) (by omega) ho).use ?_
    refine .mk (addS (by simp; omega)) ?_
    exact ⟨rfl, rfl⟩
  | .ap a b, d + 1, hd, h10, ho => .of (hc d _) fun S => by
    have hd : max a.dep b.dep + 1 < d + 1 := hd
    have h10 : max a.dep b.dep + 1 ≤ 10 := h10
    have hl1 := PT.text_le (t := a) ho.1 (by omega)
    have hl2 := PT.text_le (t := b) ho.2 (by omega)
    refine wRun ?_
    unfold ltextF
    walk_at "evr"
    refine (ltext_s hc a d (by omega) (by omega) ho.1).use ?_
    refine .mk (addS (by simp; omega)) ?_
    walk_at "evr"
    refine .mk (addS (by simp; omega)) ?_
    walk_at "evr"
    refine (ltext_s hc b d (by omega) (by omega) ho.2).use ?_
    refine .mk (addS (by simp; omega)) ?_
    walk_at "evr"
    refine .mk (addS (by simp; omega)) ?_
    exact ⟨rfl, rfl⟩
/-! functions within functions -/
def PT.need : PT → Nat
  | .fr _ => 0
  | .num _ => 0
  | .pl _ => 0
  | .fn b => b.need + 1
  | .ap a b => max a.need b.need
theorem need_s {c : Nat → Oracle} {i : Nat} (hc : ∀ d vs S, c (d + 1) i vs S = runB 1 (needF (c d) i) vs S) : ∀ (t : Tm) (e : List Wd) (d : Nat), t.dep < d → Pure (c d) i [t.pv] (.int (toP t e).need)
  | t, e, 0, h => absurd h (Nat.not_lt_zero _)
  | .nm s, e, d + 1, hd => .of (hc d _) fun S => by
    refine wRun ?_
    unfold needF
    walk_at "evr"
    refine ⟨?_, rfl⟩
    unfold toP
    split <;> rfl
  | .num k, e, d + 1, hd => .of (hc d _) fun S => by
    refine wRun ?_
    unfold needF
    walk_at "evr"
    rfl
  | .fn s b, e, d + 1, hd => .of (hc d _) fun S => by
    have hd : b.dep + 1 < d + 1 := hd
    refine wRun ?_
    unfold needF
    walk_at "evr"
    refine (need_s hc b (s :: e) d (by omega)).use ?_
    walk_at "evr"
    refine ⟨?_, rfl⟩
    show PV.int (1 + ((toP b (s :: e)).need : Int)) = PV.int (((toP b (s :: e)).need + 1 : Nat) : Int)
    congr 1
    omega
  | .ap a b, e, d + 1, hd => .of (hc d _) fun S => by
    have hd : max a.dep b.dep + 1 < d + 1 := hd
    refine wRun ?_
    unfold needF
    walk_at "evr"
    refine (need_s hc a e d (by omega)).use ?_
    walk_at "evr"
    refine (need_s hc b e d (by omega)).use ?_
    walk_at "evr"
    refine ⟨?_, rfl⟩
    show PV.int (if ((toP b e).need : Int) > ((toP a e).need : Int) then ((toP b e).need : Int) else ((toP a e).need : Int)) = PV.int ((max (toP a e).need (toP b e).need : Nat) : Int)
    congr 1
    split <;> omega
/-! bits -/
def PT.Pu : PT → Prop
  | .fr _ => False
  | .num _ => False
  | .pl i => i < 100
  | .fn b => b.Pu
  | .ap a b => a.Pu ∧ b.Pu
def PT.bits : PT → Wd
  | .fr _ => []
  | .num _ => []
  | .pl i => List.replicate (i + 1) 49 ++ [48]
  | .fn b => [48, 48] ++ b.bits
  | .ap a b => [48, 49] ++ a.bits ++ b.bits
theorem PT.bits_len : ∀ t : PT, t.Pu → t.bits.length + 2 ≤ 104 * 2 ^ t.dep
  | .fr s, h => h.elim
  | .num k, h => h.elim
  | .pl i, h => by
    have h : i < 100 := h
    show (List.replicate (i + 1) 49 ++ [48]).length + 2 ≤ 104 * 1
    simp
    omega
  | .fn b, h => by
    have h1 := PT.bits_len b h
    have : 0 < 2 ^ b.dep := Nat.pos_of_ne_zero (by simp)
    show b.bits.length + 2 + 2 ≤ 104 * 2 ^ (b.dep + 1)
    rw [Nat.pow_succ]
    omega
  | .ap a b, h => by
    have h1 := PT.bits_len a h.1
    have h2 := PT.bits_len b h.2
    have m1 : 2 ^ a.dep ≤ 2 ^ (max a.dep b.dep) := Nat.pow_le_pow_right (by decide) (by omega)
    have m2 : 2 ^ b.dep ≤ 2 ^ (max a.dep b.dep) := Nat.pow_le_pow_right (by decide) (by omega)
    show ([48, 49] ++ a.bits ++ b.bits).length + 2 ≤ 104 * 2 ^ (max a.dep b.dep + 1)
    rw [Nat.pow_succ]
    simp only [List.length_append, List.length_cons, List.length_nil]
    omega
theorem PT.bits_le {t : PT} (h : t.Pu) (hd : t.dep ≤ 8) : t.bits.length ≤ 30000 := by
  have h1 := t.bits_len h
  have h2 : 2 ^ t.dep ≤ 256 := (Nat.pow_le_pow_right (by decide) hd : 2 ^ t.dep ≤ 2 ^ 8)
  omega
theorem rep1 : ∀ n : Nat, (List.replicate n [49]).flatten = List.replicate n 49
  | 0 => rfl
  | n + 1 => by
    show [49] ++ (List.replicate n [49]).flatten = _
    rw [rep1 n]
    rfl
theorem mulS1 {n : Nat} (h : n ≤ 1000) (S : Store) : mulP (.str [49]) (.int n) S = some (.str (List.replicate n 49), S) := by
  have : mulP (.str [49]) (.int n) S = if 0 ≤ (n : Int) ∧ (n : Int) < 1048576 ∧ [49] ≠ ([] : List Nat) ∧ [49].length * (n : Int).toNat ≤ LINE then some (.str (List.replicate (n : Int).toNat [49]).flatten, S) else none := rfl
  rw [this, if_pos ⟨by omega, by omega, by simp, small (by simp; omega)⟩, Int.toNat_natCast, rep1]
def bitE : EF := (eBin addP (eBin mulP (eC (.str [49])) (eBin addP (eBin ixP (eVar 0) (eC (.int 1))) (eC (.int 1)))) (eC (.str [48])))
def lbitE : EF := (eBin addP (eBin mulP (eC (.str [49])) (eBin ixP (eVar 0) (eC (.int 1)))) (eC (.str [49, 48])))
theorem bit_e {i : Nat} (h : i < 100) (S : Store) {Q : PV → Store → Prop} (q : Q (.str (PT.pl i).bits) S) : WE (bitE [some (PT.pl i).pv] S) Q := by
  unfold bitE
  refine wBin (wBin (wC (wBin (wBin (wVar rfl (wC (.mk rfl (wC (.mk rfl ?_)))))))))
  have := mulS1 (n := i + 1) (by omega) S
  refine .mk (show mulP (.str [49]) (.int ((i : Int) + 1)) S = _ from this) (wC (.mk (addS (by simp; omega)) q))
theorem lbit_e {i : Nat} (h : i < 100) (S : Store) {Q : PV → Store → Prop} (q : Q (.str (PT.pl i).bits) S) : WE (lbitE [some (PT.pl i).pv] S) Q := by
  unfold lbitE
  refine wBin (wBin (wC (wBin (wVar rfl (wC (.mk rfl ?_))))))
  refine .mk (mulS1 (by omega) S) (wC (.mk (addS (by simp; omega)) ?_))
  have e : List.replicate i 49 ++ [49, 48] = (PT.pl i).bits := by
    show _ = List.replicate (i + 1) 49 ++ [48]
    rw [List.replicate_succ']
    simp
  rw [e]
  exact q
theorem bits_s {c : Nat → Oracle} {i : Nat} (hc : ∀ d vs S, c (d + 1) i vs S = runB 1 (bitsF (c d) i) vs S) : ∀ (t : PT) (d : Nat), t.dep < d → t.dep ≤ 8 → t.Pu → Pure (c d) i [t.pv] (.str t.bits)
  | t, 0, h, _, _ => absurd h (Nat.not_lt_zero _)
  | .fr s, d + 1, hd, h10, ho => ho.elim
  | .num k, d + 1, hd, h10, ho => ho.elim
  | .pl k, d + 1, hd, h10, ho => .of (hc d _) fun S => by
    refine wRun ?_
    unfold bitsF
    refine wsSeq (wsIf ?_)
    refine wbTru ?_
    refine wIs (t := "") ?_
    refine wVar rfl ?_
    refine ⟨_, rfl, ?_⟩
    refine ⟨_, rfl, ?_⟩
    refine itF rfl ?_
    refine wsNil ?_
    refine wsSeq (wsIf ?_)
    refine wbCmp ?_
    refine wBin ?_
    refine wVar rfl ?_
    refine wC ?_
    refine .mk rfl ?_
    refine wC ?_
    refine ⟨_, _, rfl, ?_⟩
    refine itT rfl ?_
    exact wsSeq (wsRet (bit_e ho S ⟨rfl, rfl⟩))
  | .fn b, d + 1, hd, h10, ho => .of (hc d _) fun S => by
    have hd : b.dep + 1 < d + 1 := hd
    have h10 : b.dep + 1 ≤ 8 := h10
    have hl := PT.bits_le (t := b) ho (by omega)
    refine wRun ?_
    unfold bitsF
    walk_at "evr"
    refine (bits_s hc b d (by omega) (by omega) ho).use ?_
    refine .mk (addS (by simp; omega)) ?_
    exact ⟨rfl, rfl⟩
  | .ap a b, d + 1, hd, h10, ho => .of (hc d _) fun S => by
    have hd : max a.dep b.dep + 1 < d + 1 := hd
    have h10 : max a.dep b.dep + 1 ≤ 8 := h10
    have hl1 := PT.bits_le (t := a) ho.1 (by omega)
    have hl2 := PT.bits_le (t := b) ho.2 (by omega)
    refine wRun ?_
    unfold bitsF
    walk_at "evr"
    refine (bits_s hc a d (by omega) (by omega) ho.1).use ?_
    refine .mk (addS (by simp; omega)) ?_
    walk_at "evr"
    refine (bits_s hc b d (by omega) (by omega) ho.2).use ?_
    refine .mk (addS (by simp; omega)) ?_
    exact ⟨rfl, rfl⟩
theorem lbits_s {c : Nat → Oracle} {i : Nat} (hc : ∀ d vs S, c (d + 1) i vs S = runB 1 (lbitsF (c d) i) vs S) : ∀ (t : PT) (d : Nat), t.dep < d → t.dep ≤ 8 → t.Pu → Pure (c d) i [t.pv] (.str t.bits)
  | t, 0, h, _, _ => absurd h (Nat.not_lt_zero _)
  | .fr s, d + 1, hd, h10, ho => ho.elim
  | .num k, d + 1, hd, h10, ho => ho.elim
  | .pl k, d + 1, hd, h10, ho => .of (hc d _) fun S => by
    refine wRun ?_
    unfold lbitsF
    refine wsSeq (wsIf ?_)
    refine wbCmp ?_
    refine wBin ?_
    refine wVar rfl ?_
    refine wC ?_
    refine .mk rfl ?_
    refine wC ?_
    refine ⟨_, _, rfl, ?_⟩
    refine itT rfl ?_
    exact wsSeq (wsRet (lbit_e ho S ⟨rfl, rfl⟩))
  | .fn b, d + 1, hd, h10, ho => .of (hc d _) fun S => by
    have hd : b.dep + 1 < d + 1 := hd
    have h10 : b.dep + 1 ≤ 8 := h10
    have hl := PT.bits_le (t := b) ho (by omega)
    refine wRun ?_
    unfold lbitsF
    walk_at "evr"
    refine (lbits_s hc b d (by omega) (by omega) ho).use ?_
    refine .mk (addS (by simp; omega)) ?_
    exact ⟨rfl, rfl⟩
  | .ap a b, d + 1, hd, h10, ho => .of (hc d _) fun S => by
    have hd : max a.dep b.dep + 1 < d + 1 := hd
    have h10 : max a.dep b.dep + 1 ≤ 8 := h10
    have hl1 := PT.bits_le (t := a) ho.1 (by omega)
    have hl2 := PT.bits_le (t := b) ho.2 (by omega)
    refine wRun ?_
    unfold lbitsF
    walk_at "evr"
    refine (lbits_s hc a d (by omega) (by omega) ho.1).use ?_
    refine .mk (addS (by simp; omega)) ?_
    walk_at "evr"
    refine (lbits_s hc b d (by omega) (by omega) ho.2).use ?_
    refine .mk (addS (by simp; omega)) ?_
    exact ⟨rfl, rfl⟩

/-! Ev: bits read; what is refused. -/
/-- of def 16; calls j=17, k=2 -/
def rbF (c : Oracle) (j : Nat) (k : Nat) : SF := (sSeq (sAsg (eCall c j 2 [] (eCons (eVar 0) (eCons (eC (.int 0)) eNil))) (tgT 2 (tgCons (tgN 1) (tgCons (tgN 2) tgNil)))) (sSeq (sIf (bCmp neP (eVar 2) (eCl lenP (eCons (eVar 0) eNil))) (sSeq (sRaise 1) sNil) sNil) (sSeq (sExpr (eCall c k 2 [(.int 0)] (eCons (eVar 1) eNil))) (sSeq (sRet (eVar 1)) sNil))))
/-- of def 17; calls i=17 -/
def rbfF (c : Oracle) (i : Nat) : SF := (sSeq (sIf (bTru (eAnyS (eVar 0) (fun z => !decide (z ∈ ([48, 49] : List Nat))))) (sSeq (sRaise 1) sNil) sNil) (sSeq (sIf (bCmp eqP (eSl (eVar 0) (oSo (eVar 1)) (oSo (eBin addP (eVar 1) (eC (.int 2))))) (eC (.str [48, 48]))) (sSeq (sAsg (eCall c i 2 [] (eCons (eVar 0) (eCons (eBin addP (eVar 1) (eC (.int 2))) eNil))) (tgT 2 (tgCons (tgN 3) (tgCons (tgN 4) tgNil)))) (sSeq (sRet (eTup (eCons (eTup (eCons (eC (.str [102, 117, 110])) (eCons (eVar 3) eNil))) (eCons (eVar 4) eNil)))) sNil)) sNil) (sSeq (sIf (bCmp eqP (eSl (eVar 0) (oSo (eVar 1)) (oSo (eBin addP (eVar 1) (eC (.int 2))))) (eC (.str [48, 49]))) (sSeq (sAsg (eCall c i 2 [] (eCons (eVar 0) (eCons (eBin addP (eVar 1) (eC (.int 2))) eNil))) (tgT 2 (tgCons (tgN 5) (tgCons (tgN 4) tgNil)))) (sSeq (sAsg (eCall c i 2 [] (eCons (eVar 0) (eCons (eVar 4) eNil))) (tgT 2 (tgCons (tgN 6) (tgCons (tgN 4) tgNil)))) (sSeq (sRet (eTup (eCons (eTup (eCons (eC (.str [97, 116])) (eCons (eVar 5) (eCons (eVar 6) eNil)))) (eCons (eVar 4) eNil)))) sNil))) sNil) (sSeq (sAsg (eC (.int 0)) (tgN 2)) (sSeq (whL (bCmp eqP (eSl (eVar 0) (oSo (eBin addP (eVar 1) (eVar 2))) (oSo (eBin addP (eBin addP (eVar 1) (eVar 2)) (eC (.int 1))))) (eC (.str [49]))) (sSeq (sAug 2 iaddP (eC (.int 1))) sNil) 100000) (sSeq (sIf (bOr (bCmp eqP (eVar 2) (eC (.int 0))) (bCmp neP (eSl (eVar 0) (oSo (eBin addP (eVar 1) (eVar 2))) (oSo (eBin addP (eBin addP (eVar 1) (eVar 2)) (eC (.int 1))))) (eC (.str [48])))) (sSeq (sRaise 1) sNil) sNil) (sSeq (sRet (eTup (eCons (eTup (eCons (eC (.str [112, 108, 97, 99, 101])) (eCons (eBin subP (eVar 2) (eC (.int 1))) eNil))) (eCons (eBin addP (eBin addP (eVar 1) (eVar 2)) (eC (.int 1))) eNil)))) sNil)))))))
/-! an error told -/
def XS (e : Nat) (r : RO) (S : Store) : Prop := ∃ ρ, r = .exc e ρ S
section
variable {e : Nat} {f f2 : SF} {ρ : Env'} {S S' : Store} {t : BF} {a : EF} {tg : Tg} {as : AF} {c : Oracle} {i n : Nat} {dv vs : List PV} {Q : PV → Store → Prop}
theorem xSeq1 (h : XS e (f ρ S) S') : XS e (sSeq f f2 ρ S) S' := by
  obtain ⟨ρ', h⟩ := h
  unfold sSeq
  rw [h]
  exact ⟨ρ', rfl⟩
theorem xSeq2 (h : WS (f ρ S) fun fl S1 => ∃ ρ1, fl = .nx ρ1 ∧ XS e (f2 ρ1 S1) S') : XS e (sSeq f f2 ρ S) S' := by
  obtain ⟨fl, S1, h1, ρ1, rfl, ρ', h2⟩ := h
  unfold sSeq
  rw [h1]
  exact ⟨ρ', h2⟩
theorem xIf (h : WE (t ρ S) fun c S1 => if c = true then XS e (f ρ S1) S' else XS e (f2 ρ S1) S') : XS e (sIf t f f2 ρ S) S' := by
  obtain ⟨c, S1, h1, h2⟩ := h
  unfold sIf bindE
  rw [h1]
  cases c with
  | true => exact h2
  | false => exact h2
theorem xRaise : XS e (sRaise e ρ S) S := ⟨ρ, rfl⟩
theorem xAsg (h : a ρ S = .exc e S') : XS e (sAsg a tg ρ S) S' := by
  unfold sAsg bindE
  rw [h]
  exact ⟨ρ, rfl⟩
theorem xRun (h : XS e (f (vs.map some ++ List.replicate (n - vs.length) none) S) S') : runB n f vs S = .exc e S' := by
  obtain ⟨ρ', h⟩ := h
  unfold runB
  rw [h]
theorem xCall (h : WE (as ρ S) fun vs S1 => vs.length + dv.length = n ∧ c i (vs ++ dv) S1 = .exc e S') : eCall c i n dv as ρ S = .exc e S' := by
  obtain ⟨vs, S1, h1, h2, h3⟩ := h
  unfold eCall
  rw [h1]
  show (if vs.length + dv.length = n then c i (vs ++ dv) S1 else .bad) = _
  rw [if_pos h2]
  exact h3
theorem wTold {cs : Nat → Option Bool} {ret : List Nat} (h : a ρ S = .exc e S') (hc : cs e = some true) (q : Q (.str ret) S') : WE (eTold a cs ret ρ S) Q := by
  refine ⟨.str ret, S', ?_, q⟩
  unfold eTold
  rw [h]
  simp only [hc]
theorem wAnyS {p : Nat → Bool} (h : WE (a ρ S) fun v S1 => ∃ s, v = .str s ∧ Q (.bl (s.any p)) S1) : WE (eAnyS a p ρ S) Q := wBind (h.imp fun v S1 ⟨s, e, q⟩ => by subst e; exact ⟨_, _, rfl, q⟩)
end
/-! slices -/
theorem cut_nat {α : Type} (xs : List α) (a b : Nat) : cutL xs (some (a : Int)) (some (b : Int)) = (xs.drop a).take (b - a) := by
  unfold cutL
  rw [HT.sIx_nat, HT.sIx_nat]
  by_cases h : a ≤ xs.length
  · rw [Nat.min_eq_left h]
    by_cases h2 : b ≤ xs.length
    · rw [Nat.min_eq_left h2]
    · rw [Nat.min_eq_right (by omega)]
      rw [List.take_of_length_le (by simp), List.take_of_length_le (by simp; omega)]
  · rw [Nat.min_eq_right (show xs.length ≤ a by omega), List.drop_eq_nil_of_le (Nat.le_refl _), List.drop_eq_nil_of_le (show xs.length ≤ a by omega)]
    simp
theorem slN {T : List Nat} (a b : Nat) (h : T.length ≤ 100000) (S : Store) : slP (.str T) (some (a : Int)) (some (b : Int)) S = some (.str ((T.drop a).take (b - a)), S) := by
  have : slP (.str T) (some (a : Int)) (some (b : Int)) S = if T.length ≤ LINE then some (.str (cutL T (some (a : Int)) (some (b : Int))), S) else none := rfl
  rw [this, if_pos (small h), cut_nat]
def B01 (T : Wd) : Prop := ∀ c ∈ T, c = 48 ∨ c = 49
theorem B01.ok {T : Wd} (h : B01 T) : okS T = true := okS_of fun c hc => by rcases h c hc with rfl | rfl <;> decide
theorem B01.take {T : Wd} (h : B01 T) (k n : Nat) : B01 ((T.drop k).take n) := fun c hc => h c (List.mem_of_mem_drop (List.mem_of_mem_take hc))
theorem B01.any {T : Wd} (h : B01 T) : (T.any fun z => !decide (z ∈ ([48, 49] : List Nat))) = false := by
  rw [List.any_eq_false]
  intro c hc
  rcases h c hc with rfl | rfl <;> decide
theorem bits_01 : ∀ t : PT, B01 t.bits
  | .fr _ => fun c h => nomatch h
  | .num _ => fun c h => nomatch h
  | .pl i => fun c h => by
    rcases List.mem_append.mp h with h | h
    · exact .inr (List.eq_of_mem_replicate h)
    · exact .inl (List.mem_singleton.mp h)
  | .fn b => fun c h => by
    rcases List.mem_append.mp h with h | h
    · exact .inl (by simpa using h)
    · exact bits_01 b c h
  | .ap a b => fun c h => by
    rcases List.mem_append.mp h with h | h
    · rcases List.mem_append.mp h with h | h
      · simpa using h
      · exact bits_01 a c h
    · exact bits_01 b c h
section
variable {T : Wd} {k : Nat} {ρ : Env'} {S : Store} {QB : Bool → Store → Prop}
theorem t2 {w : Wd} (h0 : ρ[0]? = some (some (.str T))) (h1 : ρ[1]? = some (some (.int k))) (hT : B01 T) (hl : T.length ≤ 100000) (hw : okS w = true) (q : QB (decide ((T.drop k).take 2 = w)) S) : WE (bCmp eqP (eSl (eVar 0) (oSo (eVar 1)) (oSo (eBin addP (eVar 1) (eC (.int 2))))) (eC (.str w)) ρ S) QB := by
  refine wbCmp (wSl (wVar h0 (oSo_ (wVar h1 ⟨_, rfl, oSo_ (wBin (wVar h1 (wC (.mk rfl ⟨_, rfl, ?_⟩))))⟩))))
  have e : ((k : Int) + 2) = ((k + 2 : Nat) : Int) := rfl
  rw [e]
  refine .mk (slN k (k + 2) hl S) (wC ⟨_, _, eqStr (B01.ok (B01.take hT _ _)) hw S, ?_⟩)
  rw [show k + 2 - k = 2 from by omega]
  exact q
theorem t1 {w : Wd} {m : Nat} (h0 : ρ[0]? = some (some (.str T))) (h1 : ρ[1]? = some (some (.int k))) (h2 : ρ[2]? = some (some (.int m))) (hT : B01 T) (hl : T.length ≤ 100000) (hw : okS w = true) (q : QB (decide ((T.drop (k + m)).take 1 = w)) S) : WE (bCmp eqP (eSl (eVar 0) (oSo (eBin addP (eVar 1) (eVar 2))) (oSo (eBin addP (eBin addP (eVar 1) (eVar 2)) (eC (.int 1))))) (eC (.str w)) ρ S) QB := by
  refine wbCmp (wSl (wVar h0 (oSo_ (wBin (wVar h1 (wVar h2 (.mk rfl ⟨_, rfl, oSo_ (wBin (wBin (wVar h1 (wVar h2 (.mk rfl (wC (.mk rfl ⟨_, rfl, ?_⟩)))))))⟩)))))))
  have e : ((k : Int) + (m : Int)) = ((k + m : Nat) : Int) := rfl
  have e2 : ((k : Int) + (m : Int) + 1) = ((k + m + 1 : Nat) : Int) := rfl
  rw [e2, e]
  refine .mk (slN (k + m) (k + m + 1) hl S) (wC ⟨_, _, eqStr (B01.ok (B01.take hT _ _)) hw S, ?_⟩)
  rw [show k + m + 1 - (k + m) = 1 from by omega]
  exact q
theorem t1n {w : Wd} {m : Nat} (h0 : ρ[0]? = some (some (.str T))) (h1 : ρ[1]? = some (some (.int k))) (h2 : ρ[2]? = some (some (.int m))) (hT : B01 T) (hl : T.length ≤ 100000) (hw : okS w = true) (q : QB (!decide ((T.drop (k + m)).take 1 = w)) S) : WE (bCmp neP (eSl (eVar 0) (oSo (eBin addP (eVar 1) (eVar 2))) (oSo (eBin addP (eBin addP (eVar 1) (eVar 2)) (eC (.int 1))))) (eC (.str w)) ρ S) QB := by
  refine wbCmp (wSl (wVar h0 (oSo_ (wBin (wVar h1 (wVar h2 (.mk rfl ⟨_, rfl, oSo_ (wBin (wBin (wVar h1 (wVar h2 (.mk rfl (wC (.mk rfl ⟨_, rfl, ?_⟩)))))))⟩)))))))
  have e : ((k : Int) + (m : Int)) = ((k + m : Nat) : Int) := rfl
  have e2 : ((k : Int) + (m : Int) + 1) = ((k + m + 1 : Nat) : Int) := rfl
  rw [e2, e]
  refine .mk (slN (k + m) (k + m + 1) hl S) (wC ⟨_, _, neStr (B01.ok (B01.take hT _ _)) hw S, ?_⟩)
  rw [show k + m + 1 - (k + m) = 1 from by omega]
  exact q
end
/-- ones counted -/
def onesL (n : Nat) : SF := whL (bCmp eqP (eSl (eVar 0) (oSo (eBin addP (eVar 1) (eVar 2))) (oSo (eBin addP (eBin addP (eVar 1) (eVar 2)) (eC (.int 1))))) (eC (.str [49]))) (sSeq (sAug 2 iaddP (eC (.int 1))) sNil) n
theorem ones_l {T : Wd} {k : Nat} {S : Store} {x3 x4 x5 x6 : Option PV} {Q : Fl → Store → Prop} (hT : B01 T) (hl : T.length ≤ 100000) : ∀ (r m n : Nat) (rest : Wd), T.drop (k + m) = List.replicate r 49 ++ rest → rest.take 1 ≠ [49] → r < n →
    Q (.nx [some (.str T), some (.int k), some (.int ((m + r : Nat) : Int)), x3, x4, x5, x6]) S → WS (onesL n [some (.str T), some (.int k), some (.int (m : Nat)), x3, x4, x5, x6] S) Q
  | r, m, 0, rest, _, _, h, _ => absurd h (Nat.not_lt_zero _)
  | 0, m, n + 1, rest, h, hr, _, q => by
    refine wwhile (t1 rfl rfl rfl hT hl rfl ?_)
    rw [h]
    refine itF (decide_eq_false (by simpa using hr)) ?_
    exact q
  | r + 1, m, n + 1, rest, h, hr, hn, q => by
    refine wwhile (t1 rfl rfl rfl hT hl rfl ?_)
    rw [h]
    refine itT (decide_eq_true (by simp [List.replicate_succ])) ?_
    walk_at "ev"
    refine ones_l hT hl r (m + 1) n rest ?_ hr (by omega) ?_
    · rw [← Nat.add_assoc, ← List.drop_drop, h]
      simp [List.replicate_succ]
    · rw [show m + 1 + r = m + (r + 1) from by omega]
      exact q
theorem rbf_s {c : Nat → Oracle} {i : Nat} (hc : ∀ d vs S, c (d + 1) i vs S = runB 7 (rbfF (c d) i) vs S) {T : Wd} (hT : B01 T) (hl : T.length ≤ 60000) : ∀ (t : PT) (d k : Nat) (suf : Wd), T.drop k = t.bits ++ suf → t.dep < d → t.Pu → Pure (c d) i [.str T, .int k] (.tup [t.pv, .int ((k + t.bits.length : Nat) : Int)])
  | t, 0, k, suf, _, h, _ => absurd h (Nat.not_lt_zero _)
  | .fr s, d + 1, k, suf, _, hd, ho => ho.elim
  | .num s, d + 1, k, suf, _, hd, ho => ho.elim
  | .pl j, d + 1, k, suf, he, hd, ho => .of (hc d _) fun S => by
    have ho : j < 100 := ho
    refine wRun ?_
    unfold rbfF
    refine wsSeq (wsIf (wbTru (wAnyS (wVar rfl ⟨_, rfl, _, rfl, ?_⟩))))
    refine itF hT.any (wsNil ?_)
    have hne : ∀ w : Wd, w.head? = some 48 → decide ((T.drop k).take 2 = w) = false := fun w hw => by
      rw [he]
      refine decide_eq_false fun h => ?_
      have : ((PT.pl j).bits ++ suf).take 2 = w := h
      have h2 : (((PT.pl j).bits ++ suf).take 2).head? = some 49 := by
        simp [PT.bits, List.replicate_succ]
      rw [this, hw] at h2
      cases h2
    refine wsSeq (wsIf (t2 rfl rfl hT (by omega) rfl ?_))
    refine itF (hne _ rfl) (wsNil ?_)
    refine wsSeq (wsIf (t2 rfl rfl hT (by omega) rfl ?_))
    refine itF (hne _ rfl) (wsNil ?_)
    refine wsSeq (wsSet (wC ?_))
    refine wsSeq ?_
    refine ones_l hT (by omega) (j + 1) 0 100000 ([48] ++ suf) (by rw [Nat.add_zero, he]; simp [PT.bits]) (by simp) (by omega) ?_
    have h48 : T.drop (k + (0 + (j + 1))) = [48] ++ suf := by
      rw [← List.drop_drop, he]
      simp [PT.bits]
    refine wsSeq (wsIf (wbOr (wbCmp (wVar rfl (wC ⟨_, _, eqII .., ?_⟩)))))
    refine itF (decide_eq_false (by omega)) ?_
    refine t1n rfl rfl rfl hT (by omega) rfl ?_
    rw [h48]
    refine itF rfl (wsNil ?_)
    walk_at "evr"
    refine ⟨by show 2 ≤ LINE; decide, ?_⟩
    walk_at "evr"
    refine ⟨by show 2 ≤ LINE; decide, ?_, rfl⟩
    have e1 : ((0 + (j + 1) : Nat) : Int) - 1 = (j : Int) := by omega
    have e2 : (k : Int) + ((0 + (j + 1) : Nat) : Int) + 1 = ((k + (PT.pl j).bits.length : Nat) : Int) := by simp [PT.bits]; omega
    rw [e1, e2]
    rfl
  | .fn b, d + 1, k, suf, he, hd, ho => .of (hc d _) fun S => by
    have hd : b.dep + 1 < d + 1 := hd
    refine wRun ?_
    unfold rbfF
    refine wsSeq (wsIf (wbTru (wAnyS (wVar rfl ⟨_, rfl, _, rfl, ?_⟩))))
    refine itF hT.any (wsNil ?_)
    refine wsSeq (wsIf (t2 rfl rfl hT (by omega) rfl ?_))
    rw [he]
    refine itT (decide_eq_true (by simp [PT.bits])) ?_
    walk_at "evr"
    refine (show Pure (c d) i ([.str T, .int ((k : Int) + 2)] ++ []) _ from rbf_s hc hT hl b d (k + 2) suf (by rw [← List.drop_drop, he]; simp [PT.bits]) (by omega) ho).use ?_
    walk_at "evr"
    refine ⟨by show 2 ≤ LINE; decide, ?_⟩
    walk_at "evr"
    refine ⟨by show 2 ≤ LINE; decide, ?_, rfl⟩
    rw [show k + 2 + b.bits.length = k + (PT.fn b).bits.length from by simp [PT.bits]; omega]
    rfl
  | .ap a b, d + 1, k, suf, he, hd, ho => .of (hc d _) fun S => by
    have hd : max a.dep b.dep + 1 < d + 1 := hd
    refine wRun ?_
    unfold rbfF
    refine wsSeq (wsIf (wbTru (wAnyS (wVar rfl ⟨_, rfl, _, rfl, ?_⟩))))
    refine itF hT.any (wsNil ?_)
    refine wsSeq (wsIf (t2 rfl rfl hT (by omega) rfl ?_))
    rw [he]
    refine itF (decide_eq_false (by simp [PT.bits])) (wsNil ?_)
    refine wsSeq (wsIf (t2 rfl rfl hT (by omega) rfl ?_))
    rw [he]
    refine itT (decide_eq_true (by simp [PT.bits])) ?_
    walk_at "evr"
    refine (show Pure (c d) i ([.str T, .int ((k : Int) + 2)] ++ []) _ from rbf_s hc hT hl a d (k + 2) (b.bits ++ suf) (by rw [← List.drop_drop, he]; simp [PT.bits]) (by omega) ho.1).use ?_
    walk_at "evr"
    refine (show Pure (c d) i ([.str T, .int ((k + 2 + a.bits.length : Nat) : Int)] ++ []) _ from rbf_s hc hT hl b d (k + 2 + a.bits.length) suf (by rw [show k + 2 + a.bits.length = k + (2 + a.bits.length) from by omega, ← List.drop_drop, he]; simp [PT.bits, ← List.drop_drop]) (by omega) ho.2).use ?_
    walk_at "evr"
    refine ⟨by show 3 ≤ LINE; decide, ?_⟩
    walk_at "evr"
    refine ⟨by show 2 ≤ LINE; decide, ?_, rfl⟩
    rw [show k + 2 + a.bits.length + b.bits.length = k + (PT.ap a b).bits.length from by simp [PT.bits]; omega]
    rfl
/-! what ends too soon -/
def endF : SF := (sSeq (sAsg (eC (.int 0)) (tgN 2)) (sSeq (onesL 100000) (sSeq (sIf (bOr (bCmp eqP (eVar 2) (eC (.int 0))) (bCmp neP (eSl (eVar 0) (oSo (eBin addP (eVar 1) (eVar 2))) (oSo (eBin addP (eBin addP (eVar 1) (eVar 2)) (eC (.int 1))))) (eC (.str [48])))) (sSeq (sRaise 1) sNil) sNil) (sSeq (sRet (eTup (eCons (eTup (eCons (eC (.str [112, 108, 97, 99, 101])) (eCons (eBin subP (eVar 2) (eC (.int 1))) eNil))) (eCons (eBin addP (eBin addP (eVar 1) (eVar 2)) (eC (.int 1))) eNil)))) sNil))))
def tailF (c : Oracle) (i : Nat) : SF := (sSeq (sIf (bCmp eqP (eSl (eVar 0) (oSo (eVar 1)) (oSo (eBin addP (eVar 1) (eC (.int 2))))) (eC (.str [48, 48]))) (sSeq (sAsg (eCall c i 2 [] (eCons (eVar 0) (eCons (eBin addP (eVar 1) (eC (.int 2))) eNil))) (tgT 2 (tgCons (tgN 3) (tgCons (tgN 4) tgNil)))) (sSeq (sRet (eTup (eCons (eTup (eCons (eC (.str [102, 117, 110])) (eCons (eVar 3) eNil))) (eCons (eVar 4) eNil)))) sNil)) sNil) (sSeq (sIf (bCmp eqP (eSl (eVar 0) (oSo (eVar 1)) (oSo (eBin addP (eVar 1) (eC (.int 2))))) (eC (.str [48, 49]))) (sSeq (sAsg (eCall c i 2 [] (eCons (eVar 0) (eCons (eBin addP (eVar 1) (eC (.int 2))) eNil))) (tgT 2 (tgCons (tgN 5) (tgCons (tgN 4) tgNil)))) (sSeq (sAsg (eCall c i 2 [] (eCons (eVar 0) (eCons (eVar 4) eNil))) (tgT 2 (tgCons (tgN 6) (tgCons (tgN 4) tgNil)))) (sSeq (sRet (eTup (eCons (eTup (eCons (eC (.str [97, 116])) (eCons (eVar 5) (eCons (eVar 6) eNil)))) (eCons (eVar 4) eNil)))) sNil))) sNil) endF))
theorem rbfF_eq (c : Oracle) (i : Nat) : rbfF c i = (sSeq (sIf (bTru (eAnyS (eVar 0) (fun z => !decide (z ∈ ([48, 49] : List Nat))))) (sSeq (sRaise 1) sNil) sNil) (tailF c i)) := rfl
section
variable {T : Wd} {k : Nat} {S : Store} {x2 x3 x4 x5 x6 : Option PV}
theorem end_x (hT : B01 T) (hl : T.length ≤ 100000) {r : Nat} {rest : Wd} (h : T.drop k = List.replicate r 49 ++ rest) (hr : rest.take 1 ≠ [49]) (hz : r = 0 ∨ rest.take 1 ≠ [48]) (hn : r < 100000) : XS 1 (endF [some (.str T), some (.int k), x2, x3, x4, x5, x6] S) S := by
  unfold endF
  refine xSeq2 (wsSet (wC ⟨_, rfl, ?_⟩))
  refine xSeq2 ?_
  refine ones_l hT hl r 0 100000 rest (by rw [Nat.add_zero]; exact h) hr hn ⟨_, rfl, ?_⟩
  refine xSeq1 (xIf (wbOr (wbCmp (wVar rfl (wC ⟨_, _, eqII .., ?_⟩)))))
  by_cases h0 : r = 0
  · refine itT (decide_eq_true (by omega)) ?_
    exact itT rfl (xSeq1 xRaise)
  · refine itF (decide_eq_false (by omega)) ?_
    refine t1n rfl rfl rfl hT hl rfl ?_
    have e1 : T.drop (k + (0 + r)) = rest := by
      rw [← List.drop_drop, h]
      simp
    rw [e1]
    have h2 := hz.resolve_left h0
    refine itT (by rw [decide_eq_false h2]; rfl) ?_
    exact xSeq1 xRaise
theorem tail_end (c : Oracle) (i : Nat) (hT : B01 T) (hl : T.length ≤ 100000) {r : Nat} {rest : Wd} (h : T.drop k = List.replicate r 49 ++ rest) (hr : rest.take 1 ≠ [49]) (hz : r = 0 ∨ rest.take 1 ≠ [48]) (hn : r < 100000) (h00 : (T.drop k).take 2 ≠ [48, 48]) (h01 : (T.drop k).take 2 ≠ [48, 49]) : XS 1 (tailF c i [some (.str T), some (.int k), x2, x3, x4, x5, x6] S) S := by
  unfold tailF
  refine xSeq2 (wsIf (t2 rfl rfl hT hl rfl ?_))
  refine itF (decide_eq_false h00) (wsNil ⟨_, rfl, ?_⟩)
  refine xSeq2 (wsIf (t2 rfl rfl hT hl rfl ?_))
  refine itF (decide_eq_false h01) (wsNil ⟨_, rfl, ?_⟩)
  exact end_x hT hl h hr hz hn
end
theorem rbf_x {c : Nat → Oracle} {i : Nat} (hc : ∀ d vs S, c (d + 1) i vs S = runB 7 (rbfF (c d) i) vs S) {T : Wd} (hT : B01 T) (hl : T.length ≤ 60000) : ∀ (t : PT) (d k : Nat) (z : Wd) (S : Store), t.bits = T.drop k ++ z → z ≠ [] → t.dep < d → t.Pu → c d i [.str T, .int k] S = .exc 1 S
  | t, 0, k, z, S, _, _, h, _ => absurd h (Nat.not_lt_zero _)
  | .fr s, d + 1, k, z, S, _, _, hd, ho => ho.elim
  | .num s, d + 1, k, z, S, _, _, hd, ho => ho.elim
  | .pl j, d + 1, k, z, S, he, hz, hd, ho => by
    have ho : j < 100 := ho
    rw [hc, rbfF_eq]
    refine xRun (xSeq2 (wsIf (wbTru (wAnyS (wVar rfl ⟨_, rfl, _, rfl, ?_⟩)))))
    refine itF hT.any (wsNil ⟨_, rfl, ?_⟩)
    have hq : ∃ m, m ≤ j + 1 ∧ T.drop k = List.replicate m 49 := by
      have he : List.replicate (j + 1) 49 ++ [48] = T.drop k ++ z := he
      have hlen : (T.drop k).length ≤ j + 1 := by
        have := congrArg List.length he
        have hz2 : 0 < z.length := List.length_pos_iff.mpr hz
        rw [List.length_append, List.length_append, List.length_replicate] at this
        simp only [List.length_cons, List.length_nil] at this
        omega
      refine ⟨(T.drop k).length, hlen, ?_⟩
      have h1 : (List.replicate (j + 1) 49 ++ [48]).take (T.drop k).length = T.drop k := by rw [he]; simp
      rw [List.take_append_of_le_length (by simpa using hlen), List.take_replicate, Nat.min_eq_left hlen] at h1
      exact h1.symm
    obtain ⟨m, hm, hq⟩ := hq
    have hne : ∀ w : Wd, w.head? = some 48 → (T.drop k).take 2 ≠ w := fun w hw h => by
      rw [hq] at h
      rw [← h] at hw
      cases m with
      | zero => simp at hw
      | succ m => simp [List.replicate_succ] at hw
    exact tail_end _ _ hT (by omega) (r := m) (rest := []) (by rw [hq]; simp) (by simp) (.inr (by simp)) (by omega) (hne _ rfl) (hne _ rfl)
  | .fn b, d + 1, k, z, S, he, hz, hd, ho => by
    have hd : b.dep + 1 < d + 1 := hd
    have he : 48 :: 48 :: b.bits = T.drop k ++ z := he
    rw [hc, rbfF_eq]
    refine xRun (xSeq2 (wsIf (wbTru (wAnyS (wVar rfl ⟨_, rfl, _, rfl, ?_⟩)))))
    refine itF hT.any (wsNil ⟨_, rfl, ?_⟩)
    cases hq : T.drop k with
    | nil => exact tail_end _ _ hT (by omega) (r := 0) (rest := []) (by rw [hq]; rfl) (by simp) (.inl rfl) (by omega) (by rw [hq]; simp) (by rw [hq]; simp)
    | cons x r =>
      rw [hq] at he
      have hx := (List.cons.inj he).1
      have he1 : 48 :: b.bits = r ++ z := (List.cons.inj he).2
      clear he
      subst hx
      cases r with
      | nil => exact tail_end _ _ hT (by omega) (r := 0) (rest := [48]) (by rw [hq]; rfl) (by simp) (.inl rfl) (by omega) (by rw [hq]; simp) (by rw [hq]; simp)
      | cons y r =>
        obtain ⟨rfl, he⟩ := List.cons.inj he1
        unfold tailF
        refine xSeq1 (xIf (t2 rfl rfl hT (by omega) rfl ?_))
        rw [hq]
        refine itT (decide_eq_true (by simp)) ?_
        refine xSeq1 (xAsg (xCall ?_))
        walk_at "evr"
        exact rbf_x hc hT hl b d (k + 2) z S (by rw [← List.drop_drop, hq]; exact he) hz (by omega) ho
  | .ap a b, d + 1, k, z, S, he, hz, hd, ho => by
    have hd : max a.dep b.dep + 1 < d + 1 := hd
    have he : 48 :: 49 :: (a.bits ++ b.bits) = T.drop k ++ z := by rw [← he]; simp [PT.bits]
    rw [hc, rbfF_eq]
    refine xRun (xSeq2 (wsIf (wbTru (wAnyS (wVar rfl ⟨_, rfl, _, rfl, ?_⟩)))))
    refine itF hT.any (wsNil ⟨_, rfl, ?_⟩)
    cases hq : T.drop k with
    | nil => exact tail_end _ _ hT (by omega) (r := 0) (rest := []) (by rw [hq]; rfl) (by simp) (.inl rfl) (by omega) (by rw [hq]; simp) (by rw [hq]; simp)
    | cons x r =>
      rw [hq] at he
      have hx := (List.cons.inj he).1
      have he1 : 49 :: (a.bits ++ b.bits) = r ++ z := (List.cons.inj he).2
      clear he
      subst hx
      cases r with
      | nil => exact tail_end _ _ hT (by omega) (r := 0) (rest := [48]) (by rw [hq]; rfl) (by simp) (.inl rfl) (by omega) (by rw [hq]; simp) (by rw [hq]; simp)
      | cons y r =>
        obtain ⟨rfl, he⟩ := List.cons.inj he1
        unfold tailF
        refine xSeq2 (wsIf (t2 rfl rfl hT (by omega) rfl ?_))
        rw [hq]
        refine itF (decide_eq_false (by simp)) (wsNil ⟨_, rfl, ?_⟩)
        refine xSeq1 (xIf (t2 rfl rfl hT (by omega) rfl ?_))
        rw [hq]
        refine itT (decide_eq_true (by simp)) ?_
        have h2 : T.drop (k + 2) = r := by rw [← List.drop_drop, hq]; rfl
        rcases List.append_eq_append_iff.mp he with ⟨q, h3, h4⟩ | ⟨q, h3, h4⟩
        · -- r = a.bits ++ q, b.bits = q ++ z
          refine xSeq2 (wsAsg ?_)
          walk_at "evr"
          refine (show Pure (c d) i ([.str T, .int ((k : Int) + 2)] ++ []) _ from rbf_s hc hT hl a d (k + 2) q (by rw [h2, h3]) (by omega) ho.1).use ?_
          refine ⟨_, _, rfl, _, rfl, ?_⟩
          refine xSeq1 (xAsg (xCall ?_))
          walk_at "evr"
          exact rbf_x hc hT hl b d (k + 2 + a.bits.length) z S (by rw [show k + 2 + a.bits.length = (k + 2) + a.bits.length from rfl, ← List.drop_drop, h2, h3, h4]; simp) hz (by omega) ho.2
        · -- a.bits = r ++ q, z = q ++ b.bits
          by_cases hq0 : q = []
          · subst hq0
            simp only [List.append_nil, List.nil_append] at h3 h4
            refine xSeq2 (wsAsg ?_)
            walk_at "evr"
            refine (show Pure (c d) i ([.str T, .int ((k : Int) + 2)] ++ []) _ from rbf_s hc hT hl a d (k + 2) [] (by rw [h2, h3]; simp) (by omega) ho.1).use ?_
            refine ⟨_, _, rfl, _, rfl, ?_⟩
            refine xSeq1 (xAsg (xCall ?_))
            walk_at "evr"
            exact rbf_x hc hT hl b d (k + 2 + a.bits.length) z S (by rw [show k + 2 + a.bits.length = (k + 2) + a.bits.length from rfl, ← List.drop_drop, h2, h3, h4]; simp) hz (by omega) ho.2
          · refine xSeq1 (xAsg (xCall ?_))
            walk_at "evr"
            exact rbf_x hc hT hl a d (k + 2) q S (by rw [h2, h3]) hq0 (by omega) ho.1
/-- the bits of a term come back -/
theorem rb_s {c : Nat → Oracle} {i j k : Nat} (hc : ∀ d vs S, c (d + 1) i vs S = runB 3 (rbF (c d) j k) vs S) (hj : ∀ d vs S, c (d + 1) j vs S = runB 7 (rbfF (c d) j) vs S) (hk : ∀ d vs S, c (d + 1) k vs S = runB 2 (chkF (c d) k) vs S) (t : PT) (d : Nat) (hd : t.dep < d) (h8 : t.dep ≤ 8) (hs : t.Sc 0) (ho : t.Pu) : Pure (c (d + 1)) i [.str t.bits] t.pv := .of (hc d _) fun S => by
  have hl := PT.bits_le ho h8
  refine wRun ?_
  unfold rbF
  walk_at "evr"
  refine (show Pure (c d) j ([.str t.bits, .int ((0 : Nat) : Int)] ++ []) _ from rbf_s hj (bits_01 t) (by omega) t d 0 [] (by simp) hd ho).use ?_
  walk_at "evr"
  refine .mk (show lenP [.str t.bits] S = some (.int t.bits.length, S) from if_pos (small (by omega))) ?_
  walk_at "evr"
  refine itF (by show (!decide (((0 + t.bits.length : Nat) : Int) = (t.bits.length : Int))) = false; rw [decide_eq_true (by omega)]; rfl) ?_
  walk_at "evr"
  refine (chk_s hk t 0 d hd hs).use ?_
  walk_at "evr"
  rfl
/-- a beginning of them is refused -/
theorem rb_x {c : Nat → Oracle} {i j k : Nat} (hc : ∀ d vs S, c (d + 1) i vs S = runB 3 (rbF (c d) j k) vs S) (hj : ∀ d vs S, c (d + 1) j vs S = runB 7 (rbfF (c d) j) vs S) (t : PT) (d : Nat) (hd : t.dep < d) (h8 : t.dep ≤ 8) (ho : t.Pu) {q z : Wd} (h : t.bits = q ++ z) (hz : z ≠ []) (S : Store) : c (d + 1) i [.str q] S = .exc 1 S := by
  have hl := PT.bits_le ho h8
  have hq : B01 q := fun x hx => bits_01 t x (by rw [h]; simp [hx])
  have hql : q.length ≤ 60000 := by
    have := congrArg List.length h
    rw [List.length_append] at this
    omega
  rw [hc]
  refine xRun ?_
  unfold rbF
  refine xSeq1 (xAsg (xCall ?_))
  walk_at "evr"
  exact rbf_x hj hq hql t d 0 z S h hz hd ho

/-! Ev: functions' names made new. -/
/-- of def 29; calls i=29 -/
def otherF (c : Oracle) (i : Nat) : SF := (sSeq (sIf (bTru (eIs ["str"] (eVar 0))) (sSeq (sRet (eGet2 (eVar 1) (eVar 0) (eVar 0))) sNil) sNil) (sSeq (sIf (bTru (eIs ["int"] (eVar 0))) (sSeq (sRet (eVar 0)) sNil) sNil) (sSeq (sIf (bCmp eqP (eBin ixP (eVar 0) (eC (.int 0))) (eC (.str [97, 116]))) (sSeq (sRet (eTup (eCons (eC (.str [97, 116])) (eCons (eCall c i 2 [] (eCons (eBin ixP (eVar 0) (eC (.int 1))) (eCons (eVar 1) eNil))) (eCons (eCall c i 2 [] (eCons (eBin ixP (eVar 0) (eC (.int 2))) (eCons (eVar 1) eNil))) eNil))))) sNil) sNil) (sSeq (sAsg (eCl dicP (eCons (eLock 1 (eLc (iItm (eVar 1)) (tgT 2 (tgCons (tgN 3) (tgCons (tgN 4) tgNil))) bYes (eTup (eCons (eVar 3) (eCons (eVar 4) eNil))) [3, 4])) eNil)) (tgN 2)) (sSeq (sAsg (eBin addP (eBin addP (eC (.str [113])) (eCl strP (eCons (eCl lenP (eCons (eVar 1) eNil)) eNil))) (eBin ixP (eVar 0) (eC (.int 1)))) (tgS (eVar 2) (eBin ixP (eVar 0) (eC (.int 1))))) (sSeq (sRet (eTup (eCons (eC (.str [102, 117, 110])) (eCons (eBin dixP (eVar 2) (eBin ixP (eVar 0) (eC (.int 1)))) (eCons (eCall c i 2 [] (eCons (eBin ixP (eVar 0) (eC (.int 2))) (eCons (eVar 2) eNil))) eNil))))) sNil))))))
/-- of def 7; calls j=1 -/
def sameF (c : Oracle) (j : Nat) : SF := (sSeq (sRet (eBin eqP (eCall c j 2 [(.tup [])] (eCons (eVar 0) eNil)) (eCall c j 2 [(.tup [])] (eCons (eVar 1) eNil)))) sNil)
/-- of def 8; calls j=3, k=1 -/
def plainF (c : Oracle) (j : Nat) (k : Nat) : SF := (sSeq (sRet (eCall c j 1 [] (eCons (eCall c k 2 [(.tup [])] (eCons (eVar 0) eNil)) eNil))) sNil)
/-! tables of words -/
abbrev Tb := List (Wd × Wd)
abbrev tbv (t : Tb) : List (PV × PV) := t.map fun p => (.str p.1, .str p.2)
def Tb.get (t : Tb) (s : Wd) : Option Wd := (t.find? fun p => decide (p.1 = s)).map (·.2)
def Tb.put (t : Tb) (s n : Wd) : Tb := if t.any (fun p => decide (p.1 = s)) then t.map fun p => if p.1 = s then (p.1, n) else p else t ++ [(s, n)]
theorem hasP_tb (t : Tb) (s : Wd) : hasP (.str s) (tbv t) = t.any (fun p => decide (p.1 = s)) := by
  unfold hasP
  rw [List.any_map]
  congr 1
  funext p
  exact eqFs p.1 s
theorem putP_tb (t : Tb) (s n : Wd) : putP (tbv t) (.str s) (.str n) = tbv (t.put s n) := by
  unfold putP Tb.put
  rw [hasP_tb]
  split
  · simp only [tbv, List.map_map]
    congr 1
    funext p
    simp only [Function.comp, eqFs]
    by_cases h : p.1 = s
    · simp [h]
    · simp [h]
  · simp [tbv]
theorem valP_tb (t : Tb) (s : Wd) : valP (tbv t) (.str s) = (t.get s).map PV.str := by
  unfold valP Tb.get
  induction t with
  | nil => rfl
  | cons p t ih =>
    simp only [tbv, List.map_cons, List.find?_cons, eqFs]
    by_cases h : p.1 = s
    · simp [h]
    · simp only [h, decide_false, Bool.false_eq_true, if_false]
      exact ih
theorem Tb.get_cons (p : Wd × Wd) (t : Tb) (s : Wd) : Tb.get (p :: t) s = if p.1 = s then some p.2 else Tb.get t s := by
  unfold Tb.get
  rw [List.find?_cons]
  by_cases h : p.1 = s
  · simp [h]
  · simp [h]
theorem Tb.get_none (t : Tb) (s : Wd) : t.get s = none ↔ t.any (fun p => decide (p.1 = s)) = false := by
  induction t with
  | nil => simp [Tb.get]
  | cons p t ih =>
    rw [Tb.get_cons, List.any_cons]
    by_cases h : p.1 = s
    · simp [h]
    · simp only [h, if_false, decide_false, Bool.false_or]
      exact ih
theorem Tb.get_map (t : Tb) (s n u : Wd) : Tb.get (t.map fun p => if p.1 = s then (p.1, n) else p) u = if s = u then (t.get u).map fun _ => n else t.get u := by
  induction t with
  | nil => simp [Tb.get]
  | cons p t ih =>
    rw [List.map_cons, Tb.get_cons, Tb.get_cons, ih]
    by_cases h : p.1 = s
    · subst h
      by_cases h2 : p.1 = u
      · simp [h2]
      · simp [h2]
    · by_cases h2 : p.1 = u
      · subst h2
        have : ¬ s = p.1 := fun e => h e.symm
        simp [h, this]
      · simp [h, h2]
theorem Tb.get_app (t : Tb) (p : Wd × Wd) (u : Wd) : Tb.get (t ++ [p]) u = match Tb.get t u with
    | some x => some x
    | none => if p.1 = u then some p.2 else none := by
  induction t with
  | nil => rw [List.nil_append, Tb.get_cons]; simp [Tb.get]
  | cons q t ih =>
    rw [List.cons_append, Tb.get_cons, Tb.get_cons, ih]
    by_cases h : q.1 = u
    · simp [h]
    · simp [h]
theorem Tb.get_put (t : Tb) (s n u : Wd) : (t.put s n).get u = if s = u then some n else t.get u := by
  unfold Tb.put
  by_cases h : t.any (fun p => decide (p.1 = s)) = true
  · rw [if_pos h, Tb.get_map]
    by_cases h2 : s = u
    · subst h2
      rw [if_pos rfl, if_pos rfl]
      cases h3 : t.get s with
      | none => rw [(Tb.get_none t s).mp h3] at h; cases h
      | some x => rfl
    · rw [if_neg h2, if_neg h2]
  · rw [if_neg h, Tb.get_app]
    have h0 : t.get s = none := (Tb.get_none t s).mpr (by rw [Bool.not_eq_true] at h; exact h)
    by_cases h2 : s = u
    · subst h2
      rw [h0, if_pos rfl]
    · cases t.get u with
      | none => simp [h2]
      | some x => simp [h2]
theorem Tb.put_len (t : Tb) (s n : Wd) : (t.put s n).length ≤ t.length + 1 := by
  unfold Tb.put
  split
  · simp
  · simp
abbrev Tb.keys (t : Tb) : List Wd := t.map (·.1)
theorem Tb.put_keys (t : Tb) (s n : Wd) (h : t.keys.Nodup) : (t.put s n).keys.Nodup := by
  unfold Tb.put
  split
  · have : Tb.keys (t.map fun p => if p.1 = s then (p.1, n) else p) = t.keys := by
      simp only [Tb.keys, List.map_map]
      congr 1
      funext p
      simp only [Function.comp]
      split <;> rfl
    rw [this]; exact h
  · rename_i hn
    simp only [Tb.keys, List.map_append, List.map_cons, List.map_nil]
    rw [List.nodup_append]
    refine ⟨h, by simp, fun a ha b hb => ?_⟩
    rw [List.mem_singleton.mp hb]
    obtain ⟨p, hp, rfl⟩ := List.mem_map.mp ha
    intro e
    apply hn
    rw [List.any_eq_true]
    exact ⟨p, hp, decide_eq_true e⟩
theorem merge_tb : ∀ (b a : Tb), (Tb.keys (a ++ b)).Nodup → mergeP (tbv a) (tbv b) = tbv (a ++ b)
  | [], a, _ => by simp [mergeP]
  | p :: b, a, h => by
    show mergeP (putP (tbv a) (.str p.1) (.str p.2)) (tbv b) = _
    have hn : a.any (fun q => decide (q.1 = p.1)) = false := by
      rw [List.any_eq_false]
      intro q hq
      rw [decide_eq_true_eq]
      intro e
      simp only [Tb.keys, List.map_append, List.map_cons] at h
      rw [List.nodup_append] at h
      exact h.2.2 q.1 (List.mem_map.mpr ⟨q, hq, rfl⟩) p.1 (by simp) e
    rw [putP_tb]
    have : a.put p.1 p.2 = a ++ [p] := by
      unfold Tb.put
      rw [hn]
      simp
    rw [this, merge_tb b (a ++ [p]) (by simpa using h)]
    simp
theorem pairs_tb : ∀ t : Tb, pairsOf (t.map fun p => PV.tup [.str p.1, .str p.2]) = some (tbv t)
  | [] => rfl
  | p :: t => by
    show (match pairOf (.tup [.str p.1, .str p.2]), pairsOf (t.map fun p => PV.tup [.str p.1, .str p.2]) with
      | some p, some l => some (p :: l)
      | _, _ => none) = _
    rw [pairs_tb t]
    rfl
theorem dic_tb {S : Store} {l : Nat} {t : Tb} (hn : t.keys.Nodup) (h : S[l]? = some (.lst (t.map fun p => PV.tup [.str p.1, .str p.2]))) : dicP [.loc l] S = some (.loc S.length, S ++ [.dic (tbv t)]) := by
  unfold dicP
  simp only [h, pairs_tb]
  have := merge_tb t [] (by simpa using hn)
  simp only [List.nil_append] at this
  rw [show ([] : List (PV × PV)) = tbv [] from rfl, this]
/-! a table walked -/
theorem wLock {i l : Nat} {f : EF} {ρ : Env'} {S : Store} {kvs : List (PV × PV)} {Q : PV → Store → Prop} (h1 : ρ[i]? = some (some (.loc l))) (h2 : S[l]? = some (.dic kvs)) (h : WE (f ρ (S.set l (.rdc kvs))) fun v S1 => S1[l]? = some (.rdc kvs) ∧ Q v (S1.set l (.dic kvs))) : WE (eLock i f ρ S) Q := by
  obtain ⟨v, S1, e, h3, q⟩ := h
  refine ⟨v, S1.set l (.dic kvs), ?_, q⟩
  unfold eLock
  simp only [h1, h2, e, h3]
theorem set_back {S J : Store} {l : Nat} {o o' : SO} (h : S[l]? = some o) : (S.set l o' ++ J).set l o = S ++ J := by
  have hl := (List.getElem?_eq_some_iff.mp h).1
  rw [List.set_append_left _ _ (by simpa using hl), List.set_set]
  congr 1
  apply List.ext_getElem?
  intro i
  by_cases hi : l = i
  · subst hi
    rw [List.getElem?_set_self hl, h]
  · rw [List.getElem?_set_ne hi]
theorem itm_loop {l : Nat} {S1 : Store} {kvs : List (PV × PV)} {x0 x1 x2 : Option PV} {Q : PV → Store → Prop} (hl : l < S1.length) (h : S1[l]? = some (.rdc kvs)) (hz : kvs.length ≤ 1000) (q : Q (.loc S1.length) (S1 ++ [.lst (kvs.map fun kv => .tup [kv.1, kv.2])])) :
    ∀ (r pre : List (PV × PV)) (n : Nat), kvs = pre ++ r → r.length < n → WE (lcL (.itm l) (tgT 2 (tgCons (tgN 3) (tgCons (tgN 4) tgNil))) bYes (eTup (eCons (eVar 3) (eCons (eVar 4) eNil))) S1.length [x0, x1, x2, none, none] n pre.length (S1 ++ [.lst (pre.map fun kv => .tup [kv.1, kv.2])])) Q
  | r, pre, 0, _, h => absurd h (Nat.not_lt_zero _)
  | [], pre, n + 1, e, _ => by
    have hn : nth (.itm l) pre.length (S1 ++ [.lst (pre.map fun kv => .tup [kv.1, kv.2])]) = some none := by
      unfold nth
      simp only [grown h]
      rw [e]
      simp
    refine wlcEnd hn ?_
    rw [List.append_nil] at e
    rw [e] at q
    exact q
  | kv :: r, pre, n + 1, e, hn => by
    have hp : pre.length + (r.length + 1) ≤ 1000 := by rw [e, List.length_append] at hz; exact hz
    have hg : nth (.itm l) pre.length (S1 ++ [.lst (pre.map fun kv => .tup [kv.1, kv.2])]) = some (some (.tup [kv.1, kv.2])) := by
      unfold nth
      simp only [grown h]
      rw [e]
      simp
    refine wlcGo hg rfl ⟨true, _, rfl, itT rfl ?_⟩
    walk_at "ev"
    refine ⟨by show 2 ≤ LINE; decide, _, lastS, by rw [List.length_map]; exact Nat.lt_of_lt_of_le (show pre.length < 1001 by omega) (by decide), ?_⟩
    rw [set_last]
    have := itm_loop (x0 := x0) (x1 := x1) (x2 := x2) (Q := Q) hl h hz q r (pre ++ [kv]) n (by rw [e]; simp) (by have : r.length + 1 < n + 1 := hn; omega)
    rw [List.length_append, List.map_append] at this
    exact this
/-! names made new -/
def other : Tm → Tb → Tm
  | .nm s, t => .nm ((t.get s).getD s)
  | .num k, _ => .num k
  | .fn s b, t => .fn ([113] ++ istr t.length ++ s) (other b (t.put s ([113] ++ istr t.length ++ s)))
  | .ap a b, t => .ap (other a t) (other b t)
theorem other_dep : ∀ (t : Tm) (tb : Tb), (other t tb).dep = t.dep
  | .nm _, _ => rfl
  | .num _, _ => rfl
  | .fn s b, tb => by show (other b _).dep + 1 = b.dep + 1; rw [other_dep b]
  | .ap a b, tb => by show max (other a tb).dep (other b tb).dep + 1 = _; rw [other_dep a, other_dep b]; rfl
structure TbI (tb : Tb) (e e' : List Wd) : Prop where
  no : ∀ s, tb.get s = none → e.findIdx? (· == s) = none
  so : ∀ s n, tb.get s = some n → e'.findIdx? (· == n) = e.findIdx? (· == s) ∧ n.drop 2 = s ∧ s ∈ e
  q : ∀ n ∈ e', n.head? = some 113
theorem digit {k : Nat} (h : k < 10) : (istr k).length = 1 := by
  have : k = 0 ∨ k = 1 ∨ k = 2 ∨ k = 3 ∨ k = 4 ∨ k = 5 ∨ k = 6 ∨ k = 7 ∨ k = 8 ∨ k = 9 := by omega
  rcases this with rfl | rfl | rfl | rfl | rfl | rfl | rfl | rfl | rfl | rfl <;> decide +kernel
theorem new_drop {k : Nat} (h : k < 10) (s : Wd) : ([113] ++ istr k ++ s).drop 2 = s := by
  have := digit h
  obtain ⟨c, hc⟩ : ∃ c, istr k = [c] := by
    match istr k, this with
    | [c], _ => exact ⟨c, rfl⟩
  rw [hc]
  rfl
theorem TbI.put {tb : Tb} {e e' : List Wd} (h : TbI tb e e') (hk : tb.length < 10) (s : Wd) : TbI (tb.put s ([113] ++ istr tb.length ++ s)) (s :: e) (([113] ++ istr tb.length ++ s) :: e') := by
  have hd := new_drop hk s
  refine ⟨fun u hu => ?_, fun u n hu => ?_, fun n hn => ?_⟩
  · rw [Tb.get_put] at hu
    by_cases h2 : s = u
    · rw [if_pos h2] at hu; cases hu
    · rw [if_neg h2] at hu
      rw [List.findIdx?_cons, h.no u hu]
      have : (s == u) = false := by simpa using h2
      simp [this]
  · rw [Tb.get_put] at hu
    by_cases h2 : s = u
    · subst h2
      rw [if_pos rfl] at hu
      cases hu
      refine ⟨?_, hd, by simp⟩
      rw [List.findIdx?_cons, List.findIdx?_cons]
      simp
    · rw [if_neg h2] at hu
      obtain ⟨h3, h4, h5⟩ := h.so u n hu
      refine ⟨?_, h4, by simp [h5]⟩
      have e1 : (([113] ++ istr tb.length ++ s) == n) = false := by
        rw [beq_eq_false_iff_ne]
        intro e
        rw [← e, hd] at h4
        exact h2 h4
      have e2 : (s == u) = false := by simpa using h2
      rw [List.findIdx?_cons, List.findIdx?_cons, e1, e2, h3]
  · rcases List.mem_cons.mp hn with rfl | hn
    · rfl
    · exact h.q n hn
theorem other_toP : ∀ (t : Tm) (tb : Tb) (e e' : List Wd), TbI tb e e' → tb.length + t.dep < 10 → t.All (fun s => s.head? ≠ some 113) (fun _ => True) → toP (other t tb) e' = toP t e
  | .nm s, tb, e, e', h, _, ha => by
    show toP (.nm ((tb.get s).getD s)) e' = toP (.nm s) e
    cases hg : tb.get s with
    | none =>
      have h1 := h.no s hg
      have h2 : e'.findIdx? (· == s) = none := by
        rw [List.findIdx?_eq_none_iff]
        intro n hn
        rw [beq_eq_false_iff_ne]
        intro e
        exact ha (e ▸ h.q n hn)
      unfold toP
      simp only [Option.getD_none, h1, h2]
    | some n =>
      obtain ⟨h1, h2, h3⟩ := h.so s n hg
      obtain ⟨i, hi⟩ := mem_find.mpr h3
      unfold toP
      simp only [Option.getD_some, h1, hi]
  | .num _, _, _, _, _, _, _ => rfl
  | .fn s b, tb, e, e', h, hl, ha => by
    have hl : tb.length + (b.dep + 1) < 10 := hl
    have := Tb.put_len tb s ([113] ++ istr tb.length ++ s)
    show PT.fn _ = PT.fn _
    rw [other_toP b _ _ _ (h.put (by omega) s) (by omega) ha.2]
  | .ap a b, tb, e, e', h, hl, ha => by
    have hl : tb.length + (max a.dep b.dep + 1) < 10 := hl
    show PT.ap _ _ = PT.ap _ _
    rw [other_toP a _ _ _ h (by omega) ha.1, other_toP b _ _ _ h (by omega) ha.2]
theorem wGet2 {fo fe ff : EF} {ρ : Env'} {S : Store} {Q : PV → Store → Prop} (h : WE (fo ρ S) fun v S1 => ∃ l, v = .loc l ∧ tyP S1 v = some "dict" ∧ WE (fe ρ S1) fun i S2 => WE (ff ρ S2) fun d S3 => ∃ kvs, S3[l]? = some (.dic kvs) ∧ keyP i = true ∧ Q ((valP kvs i).getD d) S3) : WE (eGet2 fo fe ff ρ S) Q := by
  unfold eGet2
  refine wBind (h.imp fun v S1 ⟨l, e, ht, h⟩ => ?_)
  subst e
  simp only [ht]
  refine wBind (h.imp fun i S2 h => wBind (h.imp fun d S3 ⟨kvs, e, hk, q⟩ => ?_))
  simp only [e, hk, if_true]
  exact ⟨_, _, rfl, q⟩
theorem dixT {S : Store} {l : Nat} {t : Tb} {s n : Wd} (h : S[l]? = some (.dic (tbv t))) (hg : t.get s = some n) : dixP (.loc l) (.str s) S = some (.str n, S) := by
  unfold dixP
  simp only [h, keyP, if_true, valP_tb, hg, Option.map_some]
theorem lenD_ {S : Store} {l : Nat} {kvs : List (PV × PV)} (h : S[l]? = some (.dic kvs)) : lenP [.loc l] S = some (.int kvs.length, S) := by
  unfold lenP
  simp only [h]
def OkNames (t : Tm) : Prop := t.All (fun s => s.length ≤ 8) (fun s => s.length ≤ 8)
theorem other_s {c : Nat → Oracle} {i : Nat} (hc : ∀ d vs S, c (d + 1) i vs S = runB 5 (otherF (c d) i) vs S) : ∀ (t : Tm) (tb : Tb) (d : Nat) (S : Store) (l : Nat), t.dep < d → tb.length + t.dep < 10 → OkNames t → tb.keys.Nodup → S[l]? = some (.dic (tbv tb)) → WE (c d i [t.pv, .loc l] S) fun w S' => w = (other t tb).pv ∧ Ext S S'
  | t, tb, 0, S, l, h, _, _, _, _ => absurd h (Nat.not_lt_zero _)
  | .nm s, tb, d + 1, S, l, hd, hz, ho, hn, hS => by
    rw [hc]
    refine wRun ?_
    unfold otherF
    walk_at "evr"
    refine wGet2 ?_
    refine wVar rfl ⟨l, rfl, by unfold tyP; simp only [hS], ?_⟩
    refine wVar rfl (wVar rfl ⟨_, hS, rfl, ?_⟩)
    refine ⟨?_, .refl⟩
    show (valP (tbv tb) (.str s)).getD (.str s) = .str ((tb.get s).getD s)
    rw [valP_tb]
    show ((tb.get s).map PV.str).getD (.str s) = .str ((tb.get s).getD s)
    cases tb.get s <;> rfl
  | .num k, tb, d + 1, S, l, hd, hz, ho, hn, hS => by
    rw [hc]
    refine wRun ?_
    unfold otherF
    walk_at "evr"
    exact .refl
  | .fn s b, tb, d + 1, S, l, hd, hz, ho, hn, hS => by
    have hl : tb.length + (b.dep + 1) < 10 := hz
    have hd : b.dep + 1 < d + 1 := hd
    have hdig := digit (k := tb.length) (by omega)
    have hs8 : s.length ≤ 8 := ho.1
    rw [hc]
    refine wRun ?_
    unfold otherF
    walk_at "evr"
    refine wLock (l := l) rfl hS ?_
    have hlt := (List.getElem?_eq_some_iff.mp hS).1
    have h1 : (S.set l (.rdc (tbv tb)))[l]? = some (.rdc (tbv tb)) := get_set hS
    refine wLc ?_
    refine wBind (wVar rfl ?_)
    simp only [h1]
    refine ⟨_, _, rfl, ?_⟩
    refine itm_loop (kvs := tbv tb) (by simpa using hlt) h1 (by simp; omega) ?_ (tbv tb) [] _ rfl (by unfold fuelOf lenD; simp only [h1]; omega)
    refine ⟨grown h1, ?_⟩
    rw [set_back hS]
    simp only [List.length_set]
    walk_at "ev"
    refine .mk (dic_tb (t := tb) hn (by rw [lastS]; simp [tbv])) ?_
    have hS2 : (S ++ [SO.lst ((tbv tb).map fun kv => PV.tup [kv.1, kv.2])] ++ [SO.dic (tbv tb)])[l]? = some (.dic (tbv tb)) := grown (grown hS)
    refine wsSeq (wsAsg (wBin (wBin (wC (wCl (wCons (wCl (wCons (wVar rfl (wNil (.mk (lenD_ hS2) (wNil ?_))))))))))))
    rw [show ((tbv tb).length : Int) = ((tb.length : Nat) : Int) from by simp]
    refine .mk (strI (by omega) _) ?_
    refine .mk (addS (by simp; omega)) ?_
    walk_at "ev"
    refine .mk rfl ?_
    refine .mk (addS (by simp; omega)) ?_
    have hL := lastS (S := S ++ [SO.lst ((tbv tb).map fun kv => PV.tup [kv.1, kv.2])]) (o := SO.dic (tbv tb))
    refine ⟨[some (PV.tup [.str [102, 117, 110], .str s, b.pv]), some (.loc l), some (.loc (S ++ [SO.lst ((tbv tb).map fun kv => PV.tup [kv.1, kv.2])]).length), none, none], S ++ [SO.lst ((tbv tb).map fun kv => PV.tup [kv.1, kv.2])] ++ [SO.dic (tbv (tb.put s ([113] ++ istr tb.length ++ s)))], ?_, ?_⟩
    · show (match setP (.loc (S ++ [SO.lst ((tbv tb).map fun kv => PV.tup [kv.1, kv.2])]).length) (.str s) (.str ([113] ++ istr tb.length ++ s)) (S ++ [SO.lst ((tbv tb).map fun kv => PV.tup [kv.1, kv.2])] ++ [SO.dic (tbv tb)]) with | some S3 => some (_, S3) | none => none) = _
      rw [setD hL rfl (Nat.lt_of_le_of_lt (show (tbv tb).length ≤ 10 by simp; omega) (by decide)), set_last, putP_tb]
      rfl
    · have hL2 := lastS (S := S ++ [SO.lst ((tbv tb).map fun kv => PV.tup [kv.1, kv.2])]) (o := SO.dic (tbv (tb.put s ([113] ++ istr tb.length ++ s))))
      walk_at "ev"
      refine .mk rfl ?_
      refine .mk (dixT hL2 (by rw [Tb.get_put, if_pos rfl])) ?_
      walk_at "ev"
      refine .mk rfl ?_
      walk_at "ev"
      refine ⟨rfl, ?_⟩
      have hpl := Tb.put_len tb s ([113] ++ istr tb.length ++ s)
      refine (other_s hc b (tb.put s ([113] ++ istr tb.length ++ s)) d _ _ (by omega) (by omega) ho.2 (Tb.put_keys _ _ _ hn) hL2).imp ?_
      rintro _ S3 ⟨rfl, hx⟩
      walk_at "ev"
      refine ⟨by show 3 ≤ LINE; decide, rfl, ?_⟩
      exact Ext.trans (Ext.push (Ext.push .refl _) _) hx
  | .ap a b, tb, d + 1, S, l, hd, hz, ho, hn, hS => by
    have hl : tb.length + (max a.dep b.dep + 1) < 10 := hz
    have hd : max a.dep b.dep + 1 < d + 1 := hd
    rw [hc]
    refine wRun ?_
    unfold otherF
    walk_at "evr"
    refine (other_s hc a tb d S l (by omega) (by omega) ho.1 hn hS).imp ?_
    rintro _ S2 ⟨rfl, hx⟩
    walk_at "evr"
    refine (other_s hc b tb d S2 l (by omega) (by omega) ho.2 hn (hx.get hS)).imp ?_
    rintro _ S3 ⟨rfl, hx2⟩
    walk_at "evr"
    refine ⟨by show 3 ≤ LINE; decide, rfl, hx.trans hx2⟩
/-! told short -/
theorem cut_in {α : Type} (x y : α) (m : List α) : cutL ([x] ++ m ++ [y]) (some 1) (some (-1)) = m := by
  unfold cutL HT.sIx
  have : ((-1 : Int) + ((m.length : Int) + 1 + 1)).toNat - 1 = m.length := by omega
  simp [this]
def PT.short : PT → Wd
  | .ap a b => a.text ++ [32] ++ b.text
  | t => t.text
theorem short_s {c : Nat → Oracle} {i j : Nat} (hc : ∀ d vs S, c (d + 1) i vs S = runB 2 (shortF (c d) j) vs S) (hj : ∀ d vs S, c (d + 1) j vs S = runB 1 (withinF (c d) j) vs S) (t : PT) (d : Nat) (hd : t.dep < d) (h10 : t.dep ≤ 10) (ho : t.Ok) : Pure (c (d + 1)) i [t.pv] (.str t.short) := .of (hc d _) fun S => by
  have hl := PT.text_le ho h10
  refine wRun ?_
  unfold shortF
  walk_at "evr"
  refine (within_s hj t d hd h10 ho).use ?_
  cases t with
  | fr s => walk_at "evr"; rfl
  | num k => walk_at "evr"; rfl
  | pl k => walk_at "evr"; rfl
  | fn b => walk_at "evr"; rfl
  | ap a b =>
    walk_at "evr"
    refine .mk (show slP (.str (PT.ap a b).text) (some 1) (some (-1)) S = some (.str (PT.ap a b).short, S) from ?_) ⟨rfl, rfl⟩
    show (if (PT.ap a b).text.length ≤ LINE then some (PV.str (cutL (PT.ap a b).text (some 1) (some (-1))), S) else none) = _
    rw [if_pos (small (by omega))]
    have : (PT.ap a b).text = [40] ++ (a.text ++ [32] ++ b.text) ++ [41] := by simp [PT.text]
    rw [this, cut_in]
    rfl

/-! Ev: depth by rows. -/
abbrev Row := List (PT × Nat)
abbrev rv (r : Row) : List PV := r.map fun p => .tup [p.1.pv, .int p.2]
def kids (p : PT × Nat) : Row := match p.1 with
  | .fn b => [(b, p.2 + 1)]
  | .ap a b => [(a, p.2), (b, p.2)]
  | _ => []
def Ls (d : Nat) (S : Store) : List PV → List (List PV) → Prop
  | [], [] => True
  | .loc k :: r, ys :: yss => k ≠ d ∧ S[k]? = some (.lst ys) ∧ Ls d S r yss
  | _, _ => False
theorem Ls.of {d : Nat} {S : Store} : ∀ {xs : List PV} {yss : List (List PV)}, Ls d S xs yss → listsOf S xs = some yss
  | [], [], _ => rfl
  | [], _ :: _, h => h.elim
  | .loc k :: r, ys :: yss, h => by
    unfold listsOf
    simp only [h.2.1, Ls.of h.2.2]
  | .loc k :: r, [], h => h.elim
  | .non :: r, _, h => by cases h
  | .bl _ :: r, _, h => by cases h
  | .int _ :: r, _, h => by cases h
  | .str _ :: r, _, h => by cases h
  | .tup _ :: r, _, h => by cases h
theorem Ls.imp {d : Nat} {S S' : Store} (k : ∀ j o, j ≠ d → S[j]? = some o → S'[j]? = some o) : ∀ {xs : List PV} {yss : List (List PV)}, Ls d S xs yss → Ls d S' xs yss
  | [], [], _ => trivial
  | [], _ :: _, h => h.elim
  | .loc j :: r, ys :: yss, h => ⟨h.1, k j _ h.1 h.2.1, Ls.imp k h.2.2⟩
  | .loc k :: r, [], h => h.elim
  | .non :: r, _, h => by cases h
  | .bl _ :: r, _, h => by cases h
  | .int _ :: r, _, h => by cases h
  | .str _ :: r, _, h => by cases h
  | .tup _ :: r, _, h => by cases h
theorem Ls.snoc {d : Nat} {S : Store} {k : Nat} {ys : List PV} (hk : k ≠ d) (hS : S[k]? = some (.lst ys)) : ∀ {xs : List PV} {yss : List (List PV)}, Ls d S xs yss → Ls d S (xs ++ [.loc k]) (yss ++ [ys])
  | [], [], _ => ⟨hk, hS, trivial⟩
  | [], _ :: _, h => h.elim
  | .loc j :: r, ys' :: yss, h => ⟨h.1, h.2.1, Ls.snoc hk hS h.2.2⟩
  | .loc k :: r, [], h => h.elim
  | .non :: r, _, h => by cases h
  | .bl _ :: r, _, h => by cases h
  | .int _ :: r, _, h => by cases h
  | .str _ :: r, _, h => by cases h
  | .tup _ :: r, _, h => by cases h
def manyE (i j k : Nat) : EF := (eLc (iOf (eVar i)) (tgT 2 (tgCons (tgN j) (tgCons (tgN k) tgNil))) bYes (eVar k) [j, k])
def kidsE (j k : Nat) : EF := (eIf (bCmp eqP (eBin ixP (eVar j) (eC (.int 0))) (eC (.str [102, 117, 110]))) (eLst (eCons (eTup (eCons (eBin ixP (eVar j) (eC (.int 1))) (eCons (eBin addP (eVar k) (eC (.int 1))) eNil))) eNil)) (eIf (bCmp eqP (eBin ixP (eVar j) (eC (.int 0))) (eC (.str [97, 116]))) (eLst (eCons (eTup (eCons (eBin ixP (eVar j) (eC (.int 1))) (eCons (eVar k) eNil))) (eCons (eTup (eCons (eBin ixP (eVar j) (eC (.int 2))) (eCons (eVar k) eNil))) eNil))) (eLst eNil)))
theorem set_get {α : Type} {l : List α} {i : Nat} {x : α} (h : i < l.length) : (l.set i x)[i]? = some x := List.getElem?_set_self h
section
variable {ρ : Env'} {j k : Nat}
theorem many_loop {l : Nat} {S1 : Store} {row : Row} {Q : PV → Store → Prop} (hj : j < ρ.length) (hk : k < ρ.length) (h : S1[l]? = some (.lst (rv row))) (hz : row.length ≤ 100000) (q : Q (.loc S1.length) (S1 ++ [.lst (row.map fun p => PV.int (p.2 : Nat))])) :
    ∀ (r pre : Row) (n : Nat), row = pre ++ r → r.length < n → WE (lcL (.ref l) (tgT 2 (tgCons (tgN j) (tgCons (tgN k) tgNil))) bYes (eVar k) S1.length ρ n pre.length (S1 ++ [.lst (pre.map fun p => PV.int (p.2 : Nat))])) Q
  | r, pre, 0, _, h => absurd h (Nat.not_lt_zero _)
  | [], pre, n + 1, e, _ => by
    refine wlcEnd ?_ ?_
    · rw [nthL (grown h), e]; simp
    · rw [List.append_nil] at e
      rw [e] at q; exact q
  | p :: r, pre, n + 1, e, hn => by
    have hp : pre.length + (r.length + 1) ≤ 100000 := by rw [e, List.length_append] at hz; exact hz
    refine wlcGo (v := .tup [p.1.pv, .int p.2]) (by rw [nthL (grown h), e]; simp) rfl ⟨true, _, rfl, itT rfl ?_⟩
    refine wVar (v := .int p.2) (set_get (by simpa using hk)) ⟨_, lastS, by rw [List.length_map]; exact Nat.lt_of_lt_of_le (show pre.length < 100001 by omega) (by decide), ?_⟩
    rw [set_last]
    have := many_loop (Q := Q) hj hk h hz q r (pre ++ [p]) n (by rw [e]; simp) (by have : r.length + 1 < n + 1 := hn; omega)
    rw [List.length_append, List.map_append] at this
    exact this
theorem kids_e {S : Store} {p : PT × Nat} {Q : PV → Store → Prop} (h1 : ρ[j]? = some (some p.1.pv)) (h2 : ρ[k]? = some (some (.int p.2))) (ht : ∃ xs, p.1.pv = .tup xs) (q : Q (.loc S.length) (S ++ [.lst (rv (kids p))])) : WE (kidsE j k ρ S) Q := by
  obtain ⟨t, m⟩ := p
  unfold kidsE
  cases t with
  | fr s => obtain ⟨xs, hx⟩ := ht; cases hx
  | num s => obtain ⟨xs, hx⟩ := ht; cases hx
  | pl i =>
    refine wIf (wbCmp (wBin (wVar h1 (wC (.mk rfl (wC ⟨_, _, rfl, itF rfl ?_⟩))))))
    refine wIf (wbCmp (wBin (wVar h1 (wC (.mk rfl (wC ⟨_, _, rfl, itF rfl ?_⟩))))))
    exact wLst (wNil ⟨by show 0 ≤ LINE; decide, q⟩)
  | fn b =>
    refine wIf (wbCmp (wBin (wVar h1 (wC (.mk rfl (wC ⟨_, _, rfl, itT rfl ?_⟩))))))
    refine wLst (wCons (wTup (wCons (wBin (wVar h1 (wC (.mk rfl (wCons (wBin (wVar h2 (wC (.mk rfl (wNil ⟨by show 2 ≤ LINE; decide, wNil ⟨by show 1 ≤ LINE; decide, ?_⟩⟩)))))))))))))
    exact q
  | ap a b =>
    refine wIf (wbCmp (wBin (wVar h1 (wC (.mk rfl (wC ⟨_, _, rfl, itF rfl ?_⟩))))))
    refine wIf (wbCmp (wBin (wVar h1 (wC (.mk rfl (wC ⟨_, _, rfl, itT rfl ?_⟩))))))
    refine wLst ?_
    refine wCons ?_
    refine wTup ?_
    refine wCons ?_
    refine wBin ?_
    refine wVar h1 ?_
    refine wC ?_
    refine .mk rfl ?_
    refine wCons ?_
    refine wVar h2 ?_
    refine wNil ?_
    refine ⟨by show 2 ≤ LINE; decide, ?_⟩
    refine wCons ?_
    refine wTup ?_
    refine wCons ?_
    refine wBin ?_
    refine wVar h1 ?_
    refine wC ?_
    refine .mk rfl ?_
    refine wCons ?_
    refine wVar h2 ?_
    refine wNil ?_
    refine ⟨by show 2 ≤ LINE; decide, ?_⟩
    refine wNil ?_
    refine ⟨by show 2 ≤ LINE; decide, ?_⟩
    exact q
theorem kids_loop {l : Nat} {S1 : Store} {row : Row} {Q : PV → Store → Prop} (hj : j < ρ.length) (hk : k < ρ.length) (hjk : j ≠ k) (h : S1[l]? = some (.lst (rv row))) (hz : row.length ≤ 100000) (q : ∀ S' acc yss, Ext S1 S' → S'[S1.length]? = some (.lst acc) → Ls S1.length S' acc yss → yss.flatten = rv (row.flatMap kids) → Q (.loc S1.length) S') :
    ∀ (r pre : Row) (n : Nat) (S : Store) (acc : List PV) (yss : List (List PV)), row = pre ++ r → r.length < n → Ext S1 S → S[S1.length]? = some (.lst acc) → acc.length ≤ pre.length → Ls S1.length S acc yss → yss.flatten = rv (pre.flatMap kids) → WE (lcL (.ref l) (tgT 2 (tgCons (tgN j) (tgCons (tgN k) tgNil))) (bTru (eIs ["tuple"] (eVar j))) (kidsE j k) S1.length ρ n pre.length S) Q
  | r, pre, 0, _, _, _, _, h, _, _, _, _, _ => absurd h (Nat.not_lt_zero _)
  | [], pre, n + 1, S, acc, yss, e, _, hx, hd, ha, hl, hf => by
    refine wlcEnd ?_ (q S acc yss hx hd hl ?_)
    · rw [nthL (hx.get h), e]; simp
    · rw [hf, e]; simp
  | p :: r, pre, n + 1, S, acc, yss, e, hn, hx, hd, ha, hl, hf => by
    have hp : pre.length + (r.length + 1) ≤ 100000 := by rw [e, List.length_append] at hz; exact hz
    have g1 : ((ρ.set j (some p.1.pv)).set k (some (.int (p.2 : Nat))))[j]? = some (some p.1.pv) := by
      rw [List.getElem?_set_ne (Ne.symm hjk)]
      exact set_get hj
    have g2 : ((ρ.set j (some p.1.pv)).set k (some (.int (p.2 : Nat))))[k]? = some (some (.int (p.2 : Nat))) := set_get (by simpa using hk)
    have skip : kids p = [] → ∀ (_ : tyP S p.1.pv ≠ some "tuple"), WE (lcL (.ref l) (tgT 2 (tgCons (tgN j) (tgCons (tgN k) tgNil))) (bTru (eIs ["tuple"] (eVar j))) (kidsE j k) S1.length ρ n (pre.length + 1) S) Q := fun hk0 _ => by
      have := kids_loop (Q := Q) hj hk hjk h hz q r (pre ++ [p]) n S acc yss (by rw [e]; simp) (by have : r.length + 1 < n + 1 := hn; omega) hx hd (by simp; omega) hl (by rw [hf]; simp [hk0])
      rw [List.length_append] at this
      exact this
    have go : (∃ xs, p.1.pv = .tup xs) → WE (kidsE j k ((ρ.set j (some p.1.pv)).set k (some (.int (p.2 : Nat)))) S) fun y S3 => ∃ acc, S3[S1.length]? = some (.lst acc) ∧ acc.length < LINE ∧ WE (lcL (.ref l) (tgT 2 (tgCons (tgN j) (tgCons (tgN k) tgNil))) (bTru (eIs ["tuple"] (eVar j))) (kidsE j k) S1.length ρ n (pre.length + 1) (S3.set S1.length (.lst (acc ++ [y])))) Q := fun ht => by
      refine kids_e g1 g2 ht ?_
      refine ⟨acc, grown hd, Nat.lt_of_lt_of_le (show acc.length < 100001 by omega) (by decide), ?_⟩
      have hne : S.length ≠ S1.length := by
        have := (List.getElem?_eq_some_iff.mp hd).1
        omega
      have hS4 : ((S ++ [SO.lst (rv (kids p))]).set S1.length (.lst (acc ++ [.loc S.length])))[S.length]? = some (.lst (rv (kids p))) := by
        rw [List.getElem?_set_ne (Ne.symm hne)]
        exact lastS
      have := kids_loop (Q := Q) hj hk hjk h hz q r (pre ++ [p]) n ((S ++ [SO.lst (rv (kids p))]).set S1.length (.lst (acc ++ [.loc S.length]))) (acc ++ [.loc S.length]) (yss ++ [rv (kids p)]) (by rw [e]; simp) (by have : r.length + 1 < n + 1 := hn; omega)
        ((hx.push _).set (Nat.le_refl _) _) (get_set (grown hd)) (by simp; omega) (Ls.snoc hne hS4 (hl.imp fun i o hi ho => by
          rw [List.getElem?_set_ne (Ne.symm hi)]
          exact grown ho)) (by rw [List.flatten_append, hf]; simp [rv])
      rw [List.length_append] at this
      exact this
    refine wlcGo (v := .tup [p.1.pv, .int p.2]) (by rw [nthL (hx.get h), e]; simp) rfl ?_
    refine wbTru (wIs (t := "") (wVar g1 ?_))
    obtain ⟨t, m⟩ := p
    cases t with
    | fr s => exact ⟨"str", rfl, false, rfl, itF rfl (skip rfl (by simp [tyP, PT.pv]))⟩
    | num s => exact ⟨"int", rfl, false, rfl, itF rfl (skip rfl (by simp [tyP, PT.pv]))⟩
    | pl i => exact ⟨"tuple", rfl, true, rfl, itT rfl (go ⟨_, rfl⟩)⟩
    | fn b => exact ⟨"tuple", rfl, true, rfl, itT rfl (go ⟨_, rfl⟩)⟩
    | ap a b => exact ⟨"tuple", rfl, true, rfl, itT rfl (go ⟨_, rfl⟩)⟩
end
theorem ints_map : ∀ (ns : List Int), intsOf (ns.map PV.int) = some ns
  | [] => rfl
  | n :: ns => by
    show (match intsOf (ns.map PV.int) with
      | some l => some (n :: l)
      | none => none) = _
    rw [ints_map ns]
theorem maxL_le : ∀ {ns : List Int} {N : Int}, ns ≠ [] → (maxL ns ≤ N ↔ ∀ n ∈ ns, n ≤ N)
  | [], _, h => absurd rfl h
  | [i], N, _ => by simp [maxL]
  | i :: j :: r, N, _ => by
    have ih := maxL_le (ns := j :: r) (N := N) (by simp)
    show max i (maxL (j :: r)) ≤ N ↔ _
    rw [Int.max_le, ih]
    simp
/-- the depth found by rows -/
def deepR (d : Nat) (row : Row) : Nat := row.foldl (fun acc p => max acc (p.2 + p.1.need)) d
theorem deepR_le : ∀ {row : Row} {d N : Nat}, deepR d row ≤ N ↔ d ≤ N ∧ ∀ p ∈ row, p.2 + p.1.need ≤ N
  | [], d, N => by simp [deepR]
  | p :: row, d, N => by
    show deepR (max d (p.2 + p.1.need)) row ≤ N ↔ _
    rw [deepR_le]
    simp [Nat.max_le, and_assoc]
def manyM (d : Nat) (row : Row) : Nat := row.foldl (fun acc p => max acc p.2) d
theorem manyM_le : ∀ {row : Row} {d N : Nat}, manyM d row ≤ N ↔ d ≤ N ∧ ∀ p ∈ row, p.2 ≤ N
  | [], d, N => by simp [manyM]
  | p :: row, d, N => by
    show manyM (max d p.2) row ≤ N ↔ _
    rw [manyM_le]
    simp [Nat.max_le, and_assoc]
theorem kid_le (p : PT × Nat) (N : Nat) : p.2 + p.1.need ≤ N ↔ p.2 ≤ N ∧ ∀ k ∈ kids p, k.2 + k.1.need ≤ N := by
  obtain ⟨t, m⟩ := p
  cases t with
  | fr s => simp [kids, PT.need]
  | num s => simp [kids, PT.need]
  | pl i => simp [kids, PT.need]
  | fn b => simp only [kids, PT.need, List.mem_singleton, forall_eq]; omega
  | ap a b =>
    simp only [kids, PT.need, List.mem_cons, List.not_mem_nil, or_false, forall_eq_or_imp, forall_eq]
    omega
theorem deep_step (d : Nat) (row : Row) : deepR (manyM d row) (row.flatMap kids) = deepR d row := by
  have key : ∀ N, deepR (manyM d row) (row.flatMap kids) ≤ N ↔ deepR d row ≤ N := fun N => by
    rw [deepR_le, deepR_le, manyM_le]
    constructor
    · rintro ⟨⟨h1, h2⟩, h3⟩
      exact ⟨h1, fun p hp => (kid_le p N).mpr ⟨h2 p hp, fun k hk => h3 k (List.mem_flatMap.mpr ⟨p, hp, hk⟩)⟩⟩
    · rintro ⟨h1, h2⟩
      refine ⟨⟨h1, fun p hp => ((kid_le p N).mp (h2 p hp)).1⟩, fun k hk => ?_⟩
      obtain ⟨p, hp, hk⟩ := List.mem_flatMap.mp hk
      exact ((kid_le p N).mp (h2 p hp)).2 k hk
  exact Nat.le_antisymm ((key _).mpr (Nat.le_refl _)) ((key _).mp (Nat.le_refl _))
theorem max_many (d : Nat) (row : Row) : maxL ((d : Int) :: row.map fun p => (p.2 : Int)) = (manyM d row : Nat) := by
  have key : ∀ N : Nat, maxL ((d : Int) :: row.map fun p => (p.2 : Int)) ≤ N ↔ manyM d row ≤ N := fun N => by
    rw [maxL_le (by simp), manyM_le]
    constructor
    · intro h
      have h1 := h d (by simp)
      refine ⟨by omega, fun p hp => ?_⟩
      have h2 := h p.2 (by simp only [List.mem_cons, List.mem_map]; exact .inr ⟨p, hp, rfl⟩)
      omega
    · rintro ⟨h1, h2⟩ n hn
      rcases List.mem_cons.mp hn with rfl | hn
      · omega
      · obtain ⟨p, hp, rfl⟩ := List.mem_map.mp hn
        have := h2 p hp
        omega
  have h0 : (d : Int) ≤ maxL ((d : Int) :: row.map fun p => (p.2 : Int)) := (maxL_le (by simp)).mp (Int.le_refl _) _ (by simp)
  have h1 := (key (manyM d row)).mpr (Nat.le_refl _)
  have h2 := (key (maxL ((d : Int) :: row.map fun p => (p.2 : Int))).toNat).mp (by omega)
  omega

end Ev

namespace K02
open PySem PySem.Spec PyProof.Rows L2 Ev
local macro_rules | `(tactic| walk_at "ev") => `(tactic| (repeat first
  | refine wVar rfl ?_ | refine wC ?_ | refine wNil ?_ | refine wCons ?_ | refine wBin ?_ | refine wUn ?_ | refine wCl ?_ | refine wTup ?_ | refine wLst ?_ | refine wIf ?_ | refine wIs ?_ | refine wCall ?_ | refine wDn ?_ | refine wNot ?_ | refine wAppd ?_ | refine wM1 ?_ | refine wSl ?_ | refine oNo_ ?_ | refine oSo_ ?_
  | refine wbCmp ?_ | refine wbTru ?_ | refine wbNot ?_ | refine wbAnd ?_ | refine wbOr ?_ | refine wB ?_
  | refine wsSeq ?_ | refine wsNil ?_ | refine wsRet ?_ | refine wsExpr ?_ | refine wsIf ?_ | refine wsSet ?_ | refine wsAsg ?_ | refine wsPar ?_ | refine wsAug rfl ?_))
local macro_rules | `(tactic| walk_at "evr") => `(tactic| (repeat first
  | (first
  | refine wVar rfl ?_ | refine wC ?_ | refine wNil ?_ | refine wCons ?_ | refine wBin ?_ | refine wUn ?_ | refine wCl ?_ | refine wTup ?_ | refine wLst ?_ | refine wIf ?_ | refine wIs ?_ | refine wCall ?_ | refine wDn ?_ | refine wNot ?_ | refine wAppd ?_ | refine wM1 ?_ | refine wSl ?_ | refine oNo_ ?_ | refine oSo_ ?_
  | refine wbCmp ?_ | refine wbTru ?_ | refine wbNot ?_ | refine wbAnd ?_ | refine wbOr ?_ | refine wB ?_
  | refine wsSeq ?_ | refine wsNil ?_ | refine wsRet ?_ | refine wsExpr ?_ | refine wsIf ?_ | refine wsSet ?_ | refine wsAsg ?_ | refine wsPar ?_ | refine wsAug rfl ?_) | refine WO.mk rfl ?_ | refine itT rfl ?_ | refine itF rfl ?_ | refine ⟨_, _, rfl, ?_⟩ | refine ⟨_, rfl, ?_⟩ | refine ⟨rfl, ?_⟩))

def top (i : Nat) : Stmt := PySem.Challenge.pw_lambdastack_k02_terms_without_names.main.body.getD i (.Pass ⟨0, 0, 0, 0⟩)
local macro_rules | `(tactic| walk_at "vv") => `(tactic| (first | exact Or.inl rfl | exact Or.inr (Or.inl rfl) | exact Or.inr (Or.inr rfl)))
local macro_rules | `(tactic| walk_at "lo") => `(tactic| (first | exact Or.inl rfl | exact Or.inr rfl))
local macro_rules | `(tactic| walk_at "nd") => `(tactic| (decide +kernel))
local macro_rules | `(tactic| walk_at "blk") => `(tactic| (first | kernel_rfl | exact rfl))
local macro_rules | `(tactic| walk_at "gl") => `(tactic| (exact rfl))
local macro_rules | `(tactic| walk_at "genS") => `(tactic| (exact ⟨rfl, rfl, by decide +kernel, rfl, rfl, fun y hy e => absurd e (by revert y; decide +kernel)⟩))
/-! ### evaluators -/
def catch_PlaceError : Nat → Option Bool := fun n => if n = 1 then some true else none
def lam0 (c : Oracle) : EF := (eCall c 2 2 [(.int 0)] (eCons (eTup (eCons (eC (.str [112, 108, 97, 99, 101])) (eCons (eC (.int 0)) eNil))) eNil))
def lam1 (c : Oracle) : EF := (eCall c 2 2 [(.int 0)] (eCons (eTup (eCons (eC (.str [102, 117, 110])) (eCons (eTup (eCons (eC (.str [112, 108, 97, 99, 101])) (eCons (eC (.int 1)) eNil))) eNil))) eNil))
def lam2 (c : Oracle) : EF := (eCall c 2 2 [(.int 0)] (eCons (eTup (eCons (eC (.str [111, 100, 100])) (eCons (eC (.str [120])) eNil))) eNil))
def lam3 (c : Oracle) : EF := (eCall c 3 1 [] (eCons (eTup (eCons (eC (.str [112, 108, 97, 99, 101])) (eCons (eC (.int 0)) eNil))) eNil))
def lam4 (c : Oracle) : EF := (eCall c 9 3 [(.int 0)] (eCons (eTup (eCons (eC (.str [112, 108, 97, 99, 101])) (eCons (eC (.int 0)) eNil))) (eCons (eC (.int (-1))) eNil)))
def lam5 (c : Oracle) : EF := (eCall c 11 1 [] (eCons (eC (.str [120])) eNil))
def lam6 (c : Oracle) : EF := (eCall c 11 1 [] (eCons (eTup (eCons (eC (.str [97, 116])) (eCons (eC (.str [120])) (eCons (eC (.str [121])) eNil)))) eNil))
def lam7 (c : Oracle) : EF := (eCall c 15 1 [] (eCons (eC (.str [120])) eNil))
def lam8 (c : Oracle) : EF := (eCall c 15 1 [] (eCons (eTup (eCons (eC (.str [102, 117, 110])) (eCons (eC (.int 3)) eNil))) eNil))
def lam9 (c : Oracle) : EF := (eCall c 16 1 [] (eCons (eC (.str [])) eNil))
def lam10 (c : Oracle) : EF := (eCall c 16 1 [] (eCons (eC (.str [48, 48, 49])) eNil))
def lam11 (c : Oracle) : EF := (eCall c 16 1 [] (eCons (eC (.str [48, 48, 49, 49, 48])) eNil))
def lam12 (c : Oracle) : EF := (eCall c 16 1 [] (eCons (eC (.str [48, 48, 49, 48, 48])) eNil))
def lam13 (c : Oracle) : EF := (eCall c 16 1 [] (eCons (eC (.str [48, 48, 50])) eNil))
def lam14 (c : Oracle) : EF := (eCall c 16 1 [] (eCons (eC (.str [48])) eNil))
abbrev LamV := Nat → Option (Store → R PV)
def lamF (c : Oracle) : LamV
  | 0 => some fun S => lam0 c [] S
  | 1 => some fun S => lam1 c [] S
  | 2 => some fun S => lam2 c [] S
  | 3 => some fun S => lam3 c [] S
  | 4 => some fun S => lam4 c [] S
  | 5 => some fun S => lam5 c [] S
  | 6 => some fun S => lam6 c [] S
  | 7 => some fun S => lam7 c [] S
  | 8 => some fun S => lam8 c [] S
  | 9 => some fun S => lam9 c [] S
  | 10 => some fun S => lam10 c [] S
  | 11 => some fun S => lam11 c [] S
  | 12 => some fun S => lam12 c [] S
  | 13 => some fun S => lam13 c [] S
  | 14 => some fun S => lam14 c [] S
  | _ => none
def b0 (c : Oracle) (l : LamV) (c2 : Oracle) : SF := (sSeq (sAsg eDn (tgN 1)) (sSeq (sIf (bTru (eIs ["str"] (eVar 0))) (sSeq (sAsg (eC (.bl true)) (tgS (eVar 1) (eVar 0))) sNil) (sSeq (sIf (bAnd (bTru (eIs ["tuple"] (eVar 0))) (bCmp eqP (eBin ixP (eVar 0) (eC (.int 0))) (eC (.str [102, 117, 110])))) (sSeq (sAsg (eDc (iOf (eCall c 0 1 [] (eCons (eBin ixP (eVar 0) (eC (.int 2))) eNil))) (tgN 2) (bCmp neP (eVar 2) (eBin ixP (eVar 0) (eC (.int 1)))) (eVar 2) (eC (.bl true)) [2]) (tgN 1)) sNil) (sSeq (sIf (bTru (eIs ["tuple"] (eVar 0))) (sSeq (sAsg (eDc (iOf (eBin addP (eCall c 0 1 [] (eCons (eBin ixP (eVar 0) (eC (.int 1))) eNil)) (eCall c 0 1 [] (eCons (eBin ixP (eVar 0) (eC (.int 2))) eNil)))) (tgN 2) bYes (eVar 2) (eC (.bl true)) [2]) (tgN 1)) sNil) sNil) sNil)) sNil)) (sSeq (sRet (eCl tupP3 (eCons (eVar 1) eNil))) sNil)))
def b1 (c : Oracle) (l : LamV) (c2 : Oracle) : SF := (sSeq (sIf (bTru (eIs ["str"] (eVar 0))) (sSeq (sRet (eIf (bCmp (inP false) (eVar 0) (eVar 1)) (eTup (eCons (eC (.str [112, 108, 97, 99, 101])) (eCons (eBin rixP (eVar 1) (eVar 0)) eNil))) (eVar 0))) sNil) sNil) (sSeq (sIf (bTru (eIs ["int"] (eVar 0))) (sSeq (sRet (eVar 0)) sNil) sNil) (sSeq (sIf (bCmp eqP (eBin ixP (eVar 0) (eC (.int 0))) (eC (.str [102, 117, 110]))) (sSeq (sRet (eTup (eCons (eC (.str [102, 117, 110])) (eCons (eCall c 1 2 [] (eCons (eBin ixP (eVar 0) (eC (.int 2))) (eCons (eBin addP (eVar 1) (eTup (eCons (eBin ixP (eVar 0) (eC (.int 1))) eNil))) eNil))) eNil)))) sNil) sNil) (sSeq (sRet (eTup (eCons (eC (.str [97, 116])) (eCons (eCall c 1 2 [] (eCons (eBin ixP (eVar 0) (eC (.int 1))) (eCons (eVar 1) eNil))) (eCons (eCall c 1 2 [] (eCons (eBin ixP (eVar 0) (eC (.int 2))) (eCons (eVar 1) eNil))) eNil))))) sNil))))
def b2 (c : Oracle) (l : LamV) (c2 : Oracle) : SF := (sSeq (sIf (bTru (eIs ["str", "int"] (eVar 0))) (sSeq sRetN sNil) sNil) (sSeq (sIf (bAnd (bCmp eqP (eCl lenP (eCons (eVar 0) eNil)) (eC (.int 2))) (bCmp eqP (eBin ixP (eVar 0) (eC (.int 0))) (eC (.str [112, 108, 97, 99, 101])))) (sSeq (sIf (bNot (bChn leP ltP (eC (.int 0)) (eBin ixP (eVar 0) (eC (.int 1))) (eVar 1))) (sSeq (sRaise 1) sNil) sNil) sNil) (sSeq (sIf (bAnd (bCmp eqP (eCl lenP (eCons (eVar 0) eNil)) (eC (.int 2))) (bCmp eqP (eBin ixP (eVar 0) (eC (.int 0))) (eC (.str [102, 117, 110])))) (sSeq (sExpr (eCall c 2 2 [] (eCons (eBin ixP (eVar 0) (eC (.int 1))) (eCons (eBin addP (eVar 1) (eC (.int 1))) eNil)))) sNil) (sSeq (sIf (bAnd (bCmp eqP (eCl lenP (eCons (eVar 0) eNil)) (eC (.int 3))) (bCmp eqP (eBin ixP (eVar 0) (eC (.int 0))) (eC (.str [97, 116])))) (sSeq (sExpr (eCall c 2 2 [] (eCons (eBin ixP (eVar 0) (eC (.int 1))) (eCons (eVar 1) eNil)))) (sSeq (sExpr (eCall c 2 2 [] (eCons (eBin ixP (eVar 0) (eC (.int 2))) (eCons (eVar 1) eNil)))) sNil)) (sSeq (sRaise 1) sNil)) sNil)) sNil)) sNil))
def b3 (c : Oracle) (l : LamV) (c2 : Oracle) : SF := (sSeq (sExpr (eCall c 2 2 [(.int 0)] (eCons (eVar 0) eNil))) (sSeq (sRet (eCall c 5 3 [] (eCons (eVar 0) (eCons (eTup eNil) (eCons (eCall c 4 1 [] (eCons (eVar 0) eNil)) eNil))))) sNil))
def b4 (c : Oracle) (l : LamV) (c2 : Oracle) : SF := (sSeq (sIf (bTru (eIs ["str"] (eVar 0))) (sSeq (sRet (eTup (eCons (eVar 0) eNil))) sNil) sNil) (sSeq (sIf (bOr (bTru (eIs ["int"] (eVar 0))) (bCmp eqP (eBin ixP (eVar 0) (eC (.int 0))) (eC (.str [112, 108, 97, 99, 101])))) (sSeq (sRet (eTup eNil)) sNil) sNil) (sSeq (sIf (bCmp eqP (eBin ixP (eVar 0) (eC (.int 0))) (eC (.str [102, 117, 110]))) (sSeq (sRet (eCall c 4 1 [] (eCons (eBin ixP (eVar 0) (eC (.int 1))) eNil))) sNil) sNil) (sSeq (sRet (eCl tupP3 (eCons (eDc (iOf (eBin addP (eCall c 4 1 [] (eCons (eBin ixP (eVar 0) (eC (.int 1))) eNil)) (eCall c 4 1 [] (eCons (eBin ixP (eVar 0) (eC (.int 2))) eNil)))) (tgN 1) bYes (eVar 1) (eC (.bl true)) [1]) eNil))) sNil))))
def b5 (c : Oracle) (l : LamV) (c2 : Oracle) : SF := (sSeq (sIf (bTru (eIs ["str", "int"] (eVar 0))) (sSeq (sRet (eVar 0)) sNil) sNil) (sSeq (sIf (bCmp eqP (eBin ixP (eVar 0) (eC (.int 0))) (eC (.str [112, 108, 97, 99, 101]))) (sSeq (sRet (eBin ixP (eVar 1) (eBin subP (eBin subP (eCl lenP (eCons (eVar 1) eNil)) (eC (.int 1))) (eBin ixP (eVar 0) (eC (.int 1)))))) sNil) sNil) (sSeq (sIf (bCmp eqP (eBin ixP (eVar 0) (eC (.int 0))) (eC (.str [102, 117, 110]))) (sSeq (sAsg (eCall c 6 1 [] (eCons (eBin addP (eVar 1) (eVar 2)) eNil)) (tgN 3)) (sSeq (sRet (eTup (eCons (eC (.str [102, 117, 110])) (eCons (eVar 3) (eCons (eCall c 5 3 [] (eCons (eBin ixP (eVar 0) (eC (.int 1))) (eCons (eBin addP (eVar 1) (eTup (eCons (eVar 3) eNil))) (eCons (eVar 2) eNil)))) eNil))))) sNil)) sNil) (sSeq (sRet (eTup (eCons (eC (.str [97, 116])) (eCons (eCall c 5 3 [] (eCons (eBin ixP (eVar 0) (eC (.int 1))) (eCons (eVar 1) (eCons (eVar 2) eNil)))) (eCons (eCall c 5 3 [] (eCons (eBin ixP (eVar 0) (eC (.int 2))) (eCons (eVar 1) (eCons (eVar 2) eNil)))) eNil))))) sNil))))
def b6 (c : Oracle) (l : LamV) (c2 : Oracle) : SF := (sSeq (sAsg (eC (.int 0)) (tgN 1)) (sSeq (whL (bTru (eC (.bl true))) (sSeq (sFor (iOf (eC (.str [97, 98, 99, 100, 101, 102, 103, 104, 105, 106, 107, 108, 109, 110, 111, 112, 113, 114, 115, 116, 117, 118, 119, 120, 121, 122]))) (tgN 2) (sSeq (sAsg (eBin addP (eVar 2) (eIf (bCmp gtP (eVar 1) (eC (.int 0))) (eUn fmtP (eVar 1)) (eC (.str [])))) (tgN 3)) (sSeq (sIf (bCmp (inP true) (eVar 3) (eVar 0)) (sSeq (sRet (eVar 3)) sNil) sNil) sNil))) (sSeq (sAug 1 iaddP (eC (.int 1))) sNil)) 100000) sNil))
def b7 (c : Oracle) (l : LamV) (c2 : Oracle) : SF := (sSeq (sRet (eBin eqP (eCall c 1 2 [(.tup [])] (eCons (eVar 0) eNil)) (eCall c 1 2 [(.tup [])] (eCons (eVar 1) eNil)))) sNil)
def b8 (c : Oracle) (l : LamV) (c2 : Oracle) : SF := (sSeq (sRet (eCall c 3 1 [] (eCons (eCall c 1 2 [(.tup [])] (eCons (eVar 0) eNil)) eNil))) sNil)
def b9 (c : Oracle) (l : LamV) (c2 : Oracle) : SF := (sSeq (sIf (bTru (eIs ["str", "int"] (eVar 0))) (sSeq (sRet (eVar 0)) sNil) sNil) (sSeq (sIf (bCmp eqP (eBin ixP (eVar 0) (eC (.int 0))) (eC (.str [112, 108, 97, 99, 101]))) (sSeq (sIf (bAnd (bCmp geP (eBin ixP (eVar 0) (eC (.int 1))) (eVar 2)) (bCmp ltP (eBin addP (eBin ixP (eVar 0) (eC (.int 1))) (eVar 1)) (eC (.int 0)))) (sSeq (sRaise 1) sNil) sNil) (sSeq (sRet (eIf (bCmp geP (eBin ixP (eVar 0) (eC (.int 1))) (eVar 2)) (eTup (eCons (eC (.str [112, 108, 97, 99, 101])) (eCons (eBin addP (eBin ixP (eVar 0) (eC (.int 1))) (eVar 1)) eNil))) (eVar 0))) sNil)) sNil) (sSeq (sIf (bCmp eqP (eBin ixP (eVar 0) (eC (.int 0))) (eC (.str [102, 117, 110]))) (sSeq (sRet (eTup (eCons (eC (.str [102, 117, 110])) (eCons (eCall c 9 3 [] (eCons (eBin ixP (eVar 0) (eC (.int 1))) (eCons (eVar 1) (eCons (eBin addP (eVar 2) (eC (.int 1))) eNil)))) eNil)))) sNil) sNil) (sSeq (sRet (eTup (eCons (eC (.str [97, 116])) (eCons (eCall c 9 3 [] (eCons (eBin ixP (eVar 0) (eC (.int 1))) (eCons (eVar 1) (eCons (eVar 2) eNil)))) (eCons (eCall c 9 3 [] (eCons (eBin ixP (eVar 0) (eC (.int 2))) (eCons (eVar 1) (eCons (eVar 2) eNil)))) eNil))))) sNil))))
def b10 (c : Oracle) (l : LamV) (c2 : Oracle) : SF := (sSeq (sIf (bTru (eIs ["str", "int"] (eVar 0))) (sSeq (sRet (eVar 0)) sNil) sNil) (sSeq (sIf (bCmp eqP (eBin ixP (eVar 0) (eC (.int 0))) (eC (.str [112, 108, 97, 99, 101]))) (sSeq (sIf (bCmp eqP (eBin ixP (eVar 0) (eC (.int 1))) (eVar 1)) (sSeq (sRet (eCall c 9 3 [(.int 0)] (eCons (eVar 2) (eCons (eVar 1) eNil)))) sNil) sNil) (sSeq (sRet (eIf (bCmp gtP (eBin ixP (eVar 0) (eC (.int 1))) (eVar 1)) (eTup (eCons (eC (.str [112, 108, 97, 99, 101])) (eCons (eBin subP (eBin ixP (eVar 0) (eC (.int 1))) (eC (.int 1))) eNil))) (eVar 0))) sNil)) sNil) (sSeq (sIf (bCmp eqP (eBin ixP (eVar 0) (eC (.int 0))) (eC (.str [102, 117, 110]))) (sSeq (sRet (eTup (eCons (eC (.str [102, 117, 110])) (eCons (eCall c 10 3 [] (eCons (eBin ixP (eVar 0) (eC (.int 1))) (eCons (eBin addP (eVar 1) (eC (.int 1))) (eCons (eVar 2) eNil)))) eNil)))) sNil) sNil) (sSeq (sRet (eTup (eCons (eC (.str [97, 116])) (eCons (eCall c 10 3 [] (eCons (eBin ixP (eVar 0) (eC (.int 1))) (eCons (eVar 1) (eCons (eVar 2) eNil)))) (eCons (eCall c 10 3 [] (eCons (eBin ixP (eVar 0) (eC (.int 2))) (eCons (eVar 1) (eCons (eVar 2) eNil)))) eNil))))) sNil))))
def b11 (c : Oracle) (l : LamV) (c2 : Oracle) : SF := (sSeq (sIf (bOr (bNot (bTru (eIs ["tuple"] (eVar 0)))) (bOr (bCmp neP (eBin ixP (eVar 0) (eC (.int 0))) (eC (.str [97, 116]))) (bOr (bNot (bTru (eIs ["tuple"] (eBin ixP (eVar 0) (eC (.int 1)))))) (bCmp neP (eBin ixP (eBin ixP (eVar 0) (eC (.int 1))) (eC (.int 0))) (eC (.str [102, 117, 110])))))) (sSeq (sRaise 1) sNil) sNil) (sSeq (sRet (eCall c 10 3 [] (eCons (eBin ixP (eBin ixP (eVar 0) (eC (.int 1))) (eC (.int 1))) (eCons (eC (.int 0)) (eCons (eBin ixP (eVar 0) (eC (.int 2))) eNil))))) sNil))
def b12 (c : Oracle) (l : LamV) (c2 : Oracle) : SF := (sSeq (sAsg (eCall c 13 1 [] (eCons (eVar 0) eNil)) (tgN 1)) (sSeq (sRet (eIf (bAnd (bTru (eIs ["tuple"] (eVar 0))) (bCmp eqP (eBin ixP (eVar 0) (eC (.int 0))) (eC (.str [97, 116])))) (eSl (eVar 1) (oSo (eC (.int 1))) (oSo (eC (.int (-1))))) (eVar 1))) sNil))
def b13 (c : Oracle) (l : LamV) (c2 : Oracle) : SF := (sSeq (sIf (bTru (eIs ["str", "int"] (eVar 0))) (sSeq (sRet (eUn fmtP (eVar 0))) sNil) sNil) (sSeq (sIf (bCmp eqP (eBin ixP (eVar 0) (eC (.int 0))) (eC (.str [112, 108, 97, 99, 101]))) (sSeq (sRet (eJs [(eC (.str [35])), (eUn fmtP (eBin ixP (eVar 0) (eC (.int 1))))])) sNil) sNil) (sSeq (sIf (bCmp eqP (eBin ixP (eVar 0) (eC (.int 0))) (eC (.str [102, 117, 110]))) (sSeq (sRet (eBin addP (eC (.str [33])) (eCall c 13 1 [] (eCons (eBin ixP (eVar 0) (eC (.int 1))) eNil)))) sNil) sNil) (sSeq (sRet (eBin addP (eBin addP (eBin addP (eBin addP (eC (.str [40])) (eCall c 13 1 [] (eCons (eBin ixP (eVar 0) (eC (.int 1))) eNil))) (eC (.str [32]))) (eCall c 13 1 [] (eCons (eBin ixP (eVar 0) (eC (.int 2))) eNil))) (eC (.str [41])))) sNil))))
def b14 (c : Oracle) (l : LamV) (c2 : Oracle) : SF := (sSeq (sIf (bTru (eIs ["str", "int"] (eVar 0))) (sSeq (sRet (eC (.int 0))) sNil) sNil) (sSeq (sIf (bCmp eqP (eBin ixP (eVar 0) (eC (.int 0))) (eC (.str [112, 108, 97, 99, 101]))) (sSeq (sRet (eIf (bCmp eqP (eBin ixP (eVar 0) (eC (.int 1))) (eVar 1)) (eC (.int 1)) (eC (.int 0)))) sNil) sNil) (sSeq (sIf (bCmp eqP (eBin ixP (eVar 0) (eC (.int 0))) (eC (.str [102, 117, 110]))) (sSeq (sRet (eCall c 14 2 [] (eCons (eBin ixP (eVar 0) (eC (.int 1))) (eCons (eBin addP (eVar 1) (eC (.int 1))) eNil)))) sNil) sNil) (sSeq (sRet (eBin addP (eCall c 14 2 [] (eCons (eBin ixP (eVar 0) (eC (.int 1))) (eCons (eVar 1) eNil))) (eCall c 14 2 [] (eCons (eBin ixP (eVar 0) (eC (.int 2))) (eCons (eVar 1) eNil))))) sNil))))
def b15 (c : Oracle) (l : LamV) (c2 : Oracle) : SF := (sSeq (sIf (bTru (eIs ["str", "int"] (eVar 0))) (sSeq (sRaise 1) sNil) sNil) (sSeq (sIf (bCmp eqP (eBin ixP (eVar 0) (eC (.int 0))) (eC (.str [112, 108, 97, 99, 101]))) (sSeq (sRet (eBin addP (eBin mulP (eC (.str [49])) (eBin addP (eBin ixP (eVar 0) (eC (.int 1))) (eC (.int 1)))) (eC (.str [48])))) sNil) sNil) (sSeq (sIf (bCmp eqP (eBin ixP (eVar 0) (eC (.int 0))) (eC (.str [102, 117, 110]))) (sSeq (sRet (eBin addP (eC (.str [48, 48])) (eCall c 15 1 [] (eCons (eBin ixP (eVar 0) (eC (.int 1))) eNil)))) sNil) sNil) (sSeq (sRet (eBin addP (eBin addP (eC (.str [48, 49])) (eCall c 15 1 [] (eCons (eBin ixP (eVar 0) (eC (.int 1))) eNil))) (eCall c 15 1 [] (eCons (eBin ixP (eVar 0) (eC (.int 2))) eNil)))) sNil))))
def b16 (c : Oracle) (l : LamV) (c2 : Oracle) : SF := (sSeq (sAsg (eCall c 17 2 [] (eCons (eVar 0) (eCons (eC (.int 0)) eNil))) (tgT 2 (tgCons (tgN 1) (tgCons (tgN 2) tgNil)))) (sSeq (sIf (bCmp neP (eVar 2) (eCl lenP (eCons (eVar 0) eNil))) (sSeq (sRaise 1) sNil) sNil) (sSeq (sExpr (eCall c 2 2 [(.int 0)] (eCons (eVar 1) eNil))) (sSeq (sRet (eVar 1)) sNil))))
def b17 (c : Oracle) (l : LamV) (c2 : Oracle) : SF := (sSeq (sIf (bTru (eAnyS (eVar 0) (fun z => !decide (z ∈ ([48, 49] : List Nat))))) (sSeq (sRaise 1) sNil) sNil) (sSeq (sIf (bCmp eqP (eSl (eVar 0) (oSo (eVar 1)) (oSo (eBin addP (eVar 1) (eC (.int 2))))) (eC (.str [48, 48]))) (sSeq (sAsg (eCall c 17 2 [] (eCons (eVar 0) (eCons (eBin addP (eVar 1) (eC (.int 2))) eNil))) (tgT 2 (tgCons (tgN 3) (tgCons (tgN 4) tgNil)))) (sSeq (sRet (eTup (eCons (eTup (eCons (eC (.str [102, 117, 110])) (eCons (eVar 3) eNil))) (eCons (eVar 4) eNil)))) sNil)) sNil) (sSeq (sIf (bCmp eqP (eSl (eVar 0) (oSo (eVar 1)) (oSo (eBin addP (eVar 1) (eC (.int 2))))) (eC (.str [48, 49]))) (sSeq (sAsg (eCall c 17 2 [] (eCons (eVar 0) (eCons (eBin addP (eVar 1) (eC (.int 2))) eNil))) (tgT 2 (tgCons (tgN 5) (tgCons (tgN 4) tgNil)))) (sSeq (sAsg (eCall c 17 2 [] (eCons (eVar 0) (eCons (eVar 4) eNil))) (tgT 2 (tgCons (tgN 6) (tgCons (tgN 4) tgNil)))) (sSeq (sRet (eTup (eCons (eTup (eCons (eC (.str [97, 116])) (eCons (eVar 5) (eCons (eVar 6) eNil)))) (eCons (eVar 4) eNil)))) sNil))) sNil) (sSeq (sAsg (eC (.int 0)) (tgN 2)) (sSeq (whL (bCmp eqP (eSl (eVar 0) (oSo (eBin addP (eVar 1) (eVar 2))) (oSo (eBin addP (eBin addP (eVar 1) (eVar 2)) (eC (.int 1))))) (eC (.str [49]))) (sSeq (sAug 2 iaddP (eC (.int 1))) sNil) 100000) (sSeq (sIf (bOr (bCmp eqP (eVar 2) (eC (.int 0))) (bCmp neP (eSl (eVar 0) (oSo (eBin addP (eVar 1) (eVar 2))) (oSo (eBin addP (eBin addP (eVar 1) (eVar 2)) (eC (.int 1))))) (eC (.str [48])))) (sSeq (sRaise 1) sNil) sNil) (sSeq (sRet (eTup (eCons (eTup (eCons (eC (.str [112, 108, 97, 99, 101])) (eCons (eBin subP (eVar 2) (eC (.int 1))) eNil))) (eCons (eBin addP (eBin addP (eVar 1) (eVar 2)) (eC (.int 1))) eNil)))) sNil)))))))
def b18 (c : Oracle) (l : LamV) (c2 : Oracle) : SF := (sSeq (sIf (bTru (eIs ["str", "int"] (eVar 0))) (sSeq (sRet (eC (.int 0))) sNil) sNil) (sSeq (sIf (bCmp eqP (eBin ixP (eVar 0) (eC (.int 0))) (eC (.str [102, 117, 110]))) (sSeq (sRet (eBin addP (eC (.int 1)) (eCall c 18 1 [] (eCons (eBin ixP (eVar 0) (eC (.int 2))) eNil)))) sNil) sNil) (sSeq (sRet (eCl maxP2 (eCons (eCall c 18 1 [] (eCons (eBin ixP (eVar 0) (eC (.int 1))) eNil)) (eCons (eCall c 18 1 [] (eCons (eBin ixP (eVar 0) (eC (.int 2))) eNil)) eNil)))) sNil)))
def b19 (c : Oracle) (l : LamV) (c2 : Oracle) : SF := (sSeq (sPar 1 2 (eCons (eCl lstP (eCons (eCall c 0 1 [] (eCons (eVar 0) eNil)) eNil)) (eCons (eLst (eCons (eVar 0) eNil)) eNil))) (sSeq (whL (bCmp neP (eVar 2) (eLst eNil)) (sSeq (sAsg (eUn popP (eVar 2)) (tgN 3)) (sSeq (sIf (bTru (eIs ["tuple"] (eVar 3))) (sSeq (sIf (bCmp eqP (eBin ixP (eVar 3) (eC (.int 0))) (eC (.str [102, 117, 110]))) (sSeq (sIf (bCmp (inP false) (eBin ixP (eVar 3) (eC (.int 1))) (eVar 1)) (sSeq (sRet (eC (.bl false))) sNil) sNil) (sSeq (sExpr (eAppd (eVar 1) (eCons (eBin ixP (eVar 3) (eC (.int 1))) eNil))) (sSeq (sExpr (eAppd (eVar 2) (eCons (eBin ixP (eVar 3) (eC (.int 2))) eNil))) sNil))) (sSeq (sAug 2 iaddP (eLst (eCons (eBin ixP (eVar 3) (eC (.int 1))) (eCons (eBin ixP (eVar 3) (eC (.int 2))) eNil)))) sNil)) sNil) sNil) sNil)) 100000) (sSeq (sRet (eC (.bl true))) sNil)))
def b20 (c : Oracle) (l : LamV) (c2 : Oracle) : SF := (sSeq (sIf (bChn ltP ltP (eBin subP (eC (.int 0)) (eC (.int 10))) (eVar 0) (eC (.int 10))) (sSeq (sRet (eLst (eCons (eCl absP (eCons (eVar 0) eNil)) (eCons (eC (.int 0)) (eCons (eC (.int 2)) eNil))))) sNil) sNil) (sSeq (sRet (eLst (eCons (eVar 0) (eCons (eBin addP (eC (.int 1)) (eBin modP (eCl intP (eCons (eVar 0) eNil)) (eC (.int 1009)))) (eCons (eCl intP (eCons (eBin geP (eVar 0) (eBin powP (eC (.int 10)) (eC (.int 18)))) eNil)) eNil))))) sNil))
def b21 (c : Oracle) (l : LamV) (c2 : Oracle) : SF := (sSeq (sIf (bOr (bCmp eqP (eBin ixP (eVar 0) (eC (.int 2))) (eC (.int 2))) (bAnd (bCmp eqP (eBin ixP (eVar 0) (eC (.int 2))) (eC (.int 1))) (bCmp gtP (eBin ixP (eVar 0) (eC (.int 0))) (eC (.int 0))))) (sSeq (sAsg (eBin modP (eCl intP (eCons (eBin ixP (eVar 0) (eC (.int 0))) eNil)) (eVar 1)) (tgN 2)) (sSeq (sAsg (eBin fdivP (eBin ixP (eVar 0) (eC (.int 0))) (eVar 1)) (tgS (eVar 0) (eC (.int 0)))) (sSeq (sRet (eVar 2)) sNil))) sNil) (sSeq (sAsg (eC (.int 0)) (tgS (eVar 0) (eC (.int 2)))) (sSeq (sIf (bCmp gtP (eVar 1) (eC (.int 100000000))) (sSeq (sRet (eBin modP (eCl intP (eCons (eBin addP (eBin mulP (eCall c 21 2 [] (eCons (eVar 0) (eCons (eBin addP (eBin fdivP (eVar 1) (eC (.int 100000000))) (eC (.int 1))) eNil))) (eC (.int 100000000))) (eCall c 21 2 [] (eCons (eVar 0) (eCons (eC (.int 100000000)) eNil)))) eNil)) (eVar 1))) sNil) sNil) (sSeq (sAsg (eBin modP (eCl intP (eCons (eBin addP (eBin addP (eBin mulP (eBin ixP (eVar 0) (eC (.int 0))) (eC (.int 48271))) (eBin mulP (eBin ixP (eVar 0) (eC (.int 1))) (eC (.int 69621)))) (eC (.int 11))) eNil)) (eC (.int 2147483647))) (tgS (eVar 0) (eC (.int 0)))) (sSeq (sAsg (eBin addP (eBin ixP (eVar 0) (eC (.int 1))) (eC (.int 1))) (tgS (eVar 0) (eC (.int 1)))) (sSeq (sRet (eBin modP (eCl intP (eCons (eBin fdivP (eBin ixP (eVar 0) (eC (.int 0))) (eC (.int 7))) eNil)) (eVar 1))) sNil))))))
def b22 (c : Oracle) (l : LamV) (c2 : Oracle) : SF := (sSeq (sAsg (eSl (eVar 0) oNo (oSo (eVar 1))) (tgN 2)) (sSeq (sIf (bCmp eqP (eVar 2) (eLst eNil)) (sSeq (sAsg (eLst (eCons (eC (.int 0)) eNil)) (tgN 2)) sNil) sNil) (sSeq (sRet (eLc (iOf (eVar 2)) (tgN 3) bYes (eCall c 20 1 [] (eCons (eVar 3) eNil)) [3])) sNil)))
def b23 (c : Oracle) (l : LamV) (c2 : Oracle) : SF := (sSeq (sTry (sSeq (sRet (eCallV l 0)) sNil) catch_PlaceError (sSeq (sRet (eC (.str [80, 108, 97, 99, 101, 69, 114, 114, 111, 114]))) sNil)) sNil)
def b24 (c : Oracle) (l : LamV) (c2 : Oracle) : SF := (sSeq (sAsg (eCall c 21 2 [] (eCons (eVar 0) (eCons (eIf (bCmp gtP (eVar 1) (eC (.int 0))) (eC (.int 9)) (eC (.int 3))) eNil))) (tgN 3)) (sSeq (sIf (bCmp ltP (eVar 3) (eC (.int 3))) (sSeq (sRet (eIf (bCmp gtP (eCall c 21 2 [] (eCons (eVar 0) (eCons (eC (.int 9)) eNil))) (eC (.int 0))) (eBin ixP (eBin addP (eLst (eCons (eC (.str [120])) (eCons (eC (.str [121])) (eCons (eC (.str [122])) eNil)))) (eVar 2)) (eCall c 21 2 [] (eCons (eVar 0) (eCons (eBin addP (eC (.int 3)) (eCl lenP (eCons (eVar 2) eNil))) eNil)))) (eCall c 21 2 [] (eCons (eVar 0) (eCons (eC (.int 9)) eNil))))) sNil) sNil) (sSeq (sIf (bCmp ltP (eVar 3) (eC (.int 6))) (sSeq (sAsg (eBin ixP (eLst (eCons (eC (.str [120])) (eCons (eC (.str [121])) (eCons (eC (.str [122])) (eCons (eC (.str [117])) eNil))))) (eCall c 21 2 [] (eCons (eVar 0) (eCons (eC (.int 4)) eNil)))) (tgN 4)) (sSeq (sRet (eTup (eCons (eC (.str [102, 117, 110])) (eCons (eVar 4) (eCons (eCall c 24 3 [] (eCons (eVar 0) (eCons (eBin subP (eVar 1) (eC (.int 1))) (eCons (eVar 2) eNil)))) eNil))))) sNil)) sNil) (sSeq (sRet (eTup (eCons (eC (.str [97, 116])) (eCons (eCall c 24 3 [] (eCons (eVar 0) (eCons (eBin subP (eVar 1) (eC (.int 1))) (eCons (eVar 2) eNil)))) (eCons (eCall c 24 3 [] (eCons (eVar 0) (eCons (eBin subP (eVar 1) (eC (.int 1))) (eCons (eVar 2) eNil)))) eNil))))) sNil))))
def b25 (c : Oracle) (l : LamV) (c2 : Oracle) : SF := (sSeq (sAsg (eCall c 21 2 [] (eCons (eVar 0) (eCons (eIf (bCmp gtP (eVar 1) (eC (.int 0))) (eC (.int 9)) (eC (.int 2))) eNil))) (tgN 3)) (sSeq (sIf (bAnd (bCmp eqP (eVar 2) (eLst eNil)) (bCmp ltP (eVar 3) (eC (.int 2)))) (sSeq (sAsg (eC (.int 3)) (tgN 3)) sNil) sNil) (sSeq (sIf (bCmp ltP (eVar 3) (eC (.int 2))) (sSeq (sRet (eBin ixP (eVar 2) (eCall c 21 2 [] (eCons (eVar 0) (eCons (eCl lenP (eCons (eVar 2) eNil)) eNil))))) sNil) sNil) (sSeq (sIf (bOr (bCmp ltP (eVar 3) (eC (.int 6))) (bCmp ltP (eVar 1) (eC (.int 1)))) (sSeq (sAsg (eBin ixP (eLst (eCons (eC (.str [120])) (eCons (eC (.str [121])) (eCons (eC (.str [122])) (eCons (eC (.str [117])) eNil))))) (eCall c 21 2 [] (eCons (eVar 0) (eCons (eC (.int 4)) eNil)))) (tgN 4)) (sSeq (sRet (eTup (eCons (eC (.str [102, 117, 110])) (eCons (eVar 4) (eCons (eCall c 25 3 [] (eCons (eVar 0) (eCons (eBin subP (eVar 1) (eC (.int 1))) (eCons (eBin addP (eVar 2) (eLst (eCons (eVar 4) eNil))) eNil)))) eNil))))) sNil)) sNil) (sSeq (sRet (eTup (eCons (eC (.str [97, 116])) (eCons (eCall c 25 3 [] (eCons (eVar 0) (eCons (eBin subP (eVar 1) (eC (.int 1))) (eCons (eVar 2) eNil)))) (eCons (eCall c 25 3 [] (eCons (eVar 0) (eCons (eBin subP (eVar 1) (eC (.int 1))) (eCons (eVar 2) eNil)))) eNil))))) sNil)))))
def b26 (c : Oracle) (l : LamV) (c2 : Oracle) : SF := (sSeq (sIf (bTru (eIs ["int"] (eVar 0))) (sSeq (sRet (eVar 0)) sNil) sNil) (sSeq (sIf (bTru (eIs ["str"] (eVar 0))) (sSeq (sAsg (eLc (iEn (eCons (eVar 1) eNil)) (tgT 2 (tgCons (tgN 3) (tgCons (tgN 4) tgNil))) (bCmp eqP (eVar 4) (eVar 0)) (eVar 3) [3, 4]) (tgN 2)) (sSeq (sRet (eIf (bCmp neP (eVar 2) (eLst eNil)) (eTup (eCons (eC (.str [112, 108, 97, 99, 101])) (eCons (eBin subP (eBin subP (eCl lenP (eCons (eVar 1) eNil)) (eC (.int 1))) (eBin ixP (eVar 2) (eC (.int (-1))))) eNil))) (eVar 0))) sNil)) sNil) (sSeq (sIf (bCmp eqP (eBin ixP (eVar 0) (eC (.int 0))) (eC (.str [102, 117, 110]))) (sSeq (sRet (eTup (eCons (eC (.str [102, 117, 110])) (eCons (eCall c 26 2 [] (eCons (eBin ixP (eVar 0) (eC (.int 2))) (eCons (eBin addP (eVar 1) (eLst (eCons (eBin ixP (eVar 0) (eC (.int 1))) eNil))) eNil))) eNil)))) sNil) sNil) (sSeq (sRet (eTup (eCons (eC (.str [97, 116])) (eCons (eCall c 26 2 [] (eCons (eBin ixP (eVar 0) (eC (.int 1))) (eCons (eVar 1) eNil))) (eCons (eCall c 26 2 [] (eCons (eBin ixP (eVar 0) (eC (.int 2))) (eCons (eVar 1) eNil))) eNil))))) sNil))))
def b27 (c : Oracle) (l : LamV) (c2 : Oracle) : SF := (sSeq (sIf (bNot (bTru (eIs ["tuple"] (eVar 0)))) (sSeq (sRet (eVar 0)) sNil) sNil) (sSeq (sIf (bCmp eqP (eBin ixP (eVar 0) (eC (.int 0))) (eC (.str [112, 108, 97, 99, 101]))) (sSeq (sRet (eTup (eCons (eC (.str [112, 108, 97, 99, 101])) (eCons (eBin addP (eBin ixP (eVar 0) (eC (.int 1))) (eBin mulP (eVar 1) (eCl intP (eCons (eBin geP (eBin ixP (eVar 0) (eC (.int 1))) (eVar 2)) eNil)))) eNil)))) sNil) sNil) (sSeq (sIf (bCmp eqP (eBin ixP (eVar 0) (eC (.int 0))) (eC (.str [102, 117, 110]))) (sSeq (sRet (eTup (eCons (eC (.str [102, 117, 110])) (eCons (eCall c 27 3 [] (eCons (eBin ixP (eVar 0) (eC (.int 1))) (eCons (eVar 1) (eCons (eBin addP (eVar 2) (eC (.int 1))) eNil)))) eNil)))) sNil) sNil) (sSeq (sRet (eTup (eCons (eC (.str [97, 116])) (eCons (eCall c 27 3 [] (eCons (eBin ixP (eVar 0) (eC (.int 1))) (eCons (eVar 1) (eCons (eVar 2) eNil)))) (eCons (eCall c 27 3 [] (eCons (eBin ixP (eVar 0) (eC (.int 2))) (eCons (eVar 1) (eCons (eVar 2) eNil)))) eNil))))) sNil))))
def b28 (c : Oracle) (l : LamV) (c2 : Oracle) : SF := (sSeq (sIf (bNot (bTru (eIs ["tuple"] (eVar 0)))) (sSeq (sRet (eVar 0)) sNil) sNil) (sSeq (sIf (bCmp eqP (eBin ixP (eVar 0) (eC (.int 0))) (eC (.str [112, 108, 97, 99, 101]))) (sSeq (sRet (eIf (bCmp eqP (eBin ixP (eVar 0) (eC (.int 1))) (eVar 1)) (eCall c 27 3 [] (eCons (eVar 2) (eCons (eVar 1) (eCons (eC (.int 0)) eNil)))) (eTup (eCons (eC (.str [112, 108, 97, 99, 101])) (eCons (eBin subP (eBin ixP (eVar 0) (eC (.int 1))) (eCl intP (eCons (eBin gtP (eBin ixP (eVar 0) (eC (.int 1))) (eVar 1)) eNil))) eNil))))) sNil) sNil) (sSeq (sIf (bCmp eqP (eBin ixP (eVar 0) (eC (.int 0))) (eC (.str [102, 117, 110]))) (sSeq (sRet (eTup (eCons (eC (.str [102, 117, 110])) (eCons (eCall c 28 3 [] (eCons (eBin ixP (eVar 0) (eC (.int 1))) (eCons (eBin addP (eVar 1) (eC (.int 1))) (eCons (eVar 2) eNil)))) eNil)))) sNil) sNil) (sSeq (sRet (eTup (eCons (eC (.str [97, 116])) (eCons (eCall c 28 3 [] (eCons (eBin ixP (eVar 0) (eC (.int 1))) (eCons (eVar 1) (eCons (eVar 2) eNil)))) (eCons (eCall c 28 3 [] (eCons (eBin ixP (eVar 0) (eC (.int 2))) (eCons (eVar 1) (eCons (eVar 2) eNil)))) eNil))))) sNil))))
def b29 (c : Oracle) (l : LamV) (c2 : Oracle) : SF := (sSeq (sIf (bTru (eIs ["str"] (eVar 0))) (sSeq (sRet (eGet2 (eVar 1) (eVar 0) (eVar 0))) sNil) sNil) (sSeq (sIf (bTru (eIs ["int"] (eVar 0))) (sSeq (sRet (eVar 0)) sNil) sNil) (sSeq (sIf (bCmp eqP (eBin ixP (eVar 0) (eC (.int 0))) (eC (.str [97, 116]))) (sSeq (sRet (eTup (eCons (eC (.str [97, 116])) (eCons (eCall c 29 2 [] (eCons (eBin ixP (eVar 0) (eC (.int 1))) (eCons (eVar 1) eNil))) (eCons (eCall c 29 2 [] (eCons (eBin ixP (eVar 0) (eC (.int 2))) (eCons (eVar 1) eNil))) eNil))))) sNil) sNil) (sSeq (sAsg (eCl dicP (eCons (eLock 1 (eLc (iItm (eVar 1)) (tgT 2 (tgCons (tgN 3) (tgCons (tgN 4) tgNil))) bYes (eTup (eCons (eVar 3) (eCons (eVar 4) eNil))) [3, 4])) eNil)) (tgN 2)) (sSeq (sAsg (eBin addP (eBin addP (eC (.str [113])) (eCl strP (eCons (eCl lenP (eCons (eVar 1) eNil)) eNil))) (eBin ixP (eVar 0) (eC (.int 1)))) (tgS (eVar 2) (eBin ixP (eVar 0) (eC (.int 1))))) (sSeq (sRet (eTup (eCons (eC (.str [102, 117, 110])) (eCons (eBin dixP (eVar 2) (eBin ixP (eVar 0) (eC (.int 1)))) (eCons (eCall c 29 2 [] (eCons (eBin ixP (eVar 0) (eC (.int 2))) (eCons (eVar 2) eNil))) eNil))))) sNil))))))
def b30 (c : Oracle) (l : LamV) (c2 : Oracle) : SF := (sSeq (sIf (bNot (bTru (eIs ["tuple"] (eVar 0)))) (sSeq (sRet (eCl strP (eCons (eVar 0) eNil))) sNil) sNil) (sSeq (sIf (bCmp eqP (eBin ixP (eVar 0) (eC (.int 0))) (eC (.str [112, 108, 97, 99, 101]))) (sSeq (sRet (eBin addP (eC (.str [35])) (eCl strP (eCons (eBin ixP (eVar 0) (eC (.int 1))) eNil)))) sNil) sNil) (sSeq (sRet (eIf (bCmp eqP (eBin ixP (eVar 0) (eC (.int 0))) (eC (.str [102, 117, 110]))) (eBin addP (eC (.str [33])) (eCall c 30 1 [] (eCons (eBin ixP (eVar 0) (eC (.int 1))) eNil))) (eBin addP (eBin addP (eBin addP (eBin addP (eC (.str [40])) (eCall c 30 1 [] (eCons (eBin ixP (eVar 0) (eC (.int 1))) eNil))) (eC (.str [32]))) (eCall c 30 1 [] (eCons (eBin ixP (eVar 0) (eC (.int 2))) eNil))) (eC (.str [41]))))) sNil)))
def b31 (c : Oracle) (l : LamV) (c2 : Oracle) : SF := (sSeq (sIf (bCmp eqP (eBin ixP (eVar 0) (eC (.int 0))) (eC (.str [112, 108, 97, 99, 101]))) (sSeq (sRet (eBin addP (eBin mulP (eC (.str [49])) (eBin ixP (eVar 0) (eC (.int 1)))) (eC (.str [49, 48])))) sNil) sNil) (sSeq (sRet (eIf (bCmp eqP (eBin ixP (eVar 0) (eC (.int 0))) (eC (.str [102, 117, 110]))) (eBin addP (eC (.str [48, 48])) (eCall c 31 1 [] (eCons (eBin ixP (eVar 0) (eC (.int 1))) eNil))) (eBin addP (eBin addP (eC (.str [48, 49])) (eCall c 31 1 [] (eCons (eBin ixP (eVar 0) (eC (.int 1))) eNil))) (eCall c 31 1 [] (eCons (eBin ixP (eVar 0) (eC (.int 2))) eNil))))) sNil))
def b32 (c : Oracle) (l : LamV) (c2 : Oracle) : SF := (sSeq (sIf (bNot (bTru (eIs ["tuple"] (eVar 0)))) (sSeq (sRet (eC (.int 0))) sNil) sNil) (sSeq (sIf (bCmp eqP (eBin ixP (eVar 0) (eC (.int 0))) (eC (.str [112, 108, 97, 99, 101]))) (sSeq (sRet (eCl intP (eCons (eBin eqP (eBin ixP (eVar 0) (eC (.int 1))) (eVar 1)) eNil))) sNil) sNil) (sSeq (sRet (eIf (bCmp eqP (eBin ixP (eVar 0) (eC (.int 0))) (eC (.str [102, 117, 110]))) (eCall c 32 2 [] (eCons (eBin ixP (eVar 0) (eC (.int 1))) (eCons (eBin addP (eVar 1) (eC (.int 1))) eNil))) (eBin addP (eCall c 32 2 [] (eCons (eBin ixP (eVar 0) (eC (.int 1))) (eCons (eVar 1) eNil))) (eCall c 32 2 [] (eCons (eBin ixP (eVar 0) (eC (.int 2))) (eCons (eVar 1) eNil)))))) sNil)))
def b33 (c : Oracle) (l : LamV) (c2 : Oracle) : SF := (sSeq (sAsg (eTup (eCons (eC (.str [102, 117, 110])) (eCons (eC (.str [120])) (eCons (eTup (eCons (eC (.str [102, 117, 110])) (eCons (eC (.str [121])) (eCons (eTup (eCons (eC (.str [97, 116])) (eCons (eTup (eCons (eC (.str [97, 116])) (eCons (eC (.str [120])) (eCons (eC (.str [122])) eNil)))) (eCons (eTup (eCons (eC (.str [102, 117, 110])) (eCons (eC (.str [120])) (eCons (eTup (eCons (eC (.str [97, 116])) (eCons (eC (.str [120])) (eCons (eC (.str [121])) eNil)))) eNil)))) eNil)))) eNil)))) eNil)))) (tgN 0)) (sSeq (sAsg (eLst (eCons (eCall c 1 2 [(.tup [])] (eCons (eVar 0) eNil)) (eCons (eCall c 3 1 [] (eCons (eCall c 1 2 [(.tup [])] (eCons (eVar 0) eNil)) eNil)) (eCons (eCall c 8 1 [] (eCons (eTup (eCons (eC (.str [102, 117, 110])) (eCons (eC (.str [113])) (eCons (eTup (eCons (eC (.str [97, 116])) (eCons (eC (.str [113])) (eCons (eC (.str [97])) eNil)))) eNil)))) eNil)) eNil)))) (tgN 1)) (sSeq (sAsg (eBin addP (eVar 1) (eLst (eCons (eCall c 7 2 [] (eCons (eTup (eCons (eC (.str [102, 117, 110])) (eCons (eC (.str [120])) (eCons (eC (.str [120])) eNil)))) (eCons (eTup (eCons (eC (.str [102, 117, 110])) (eCons (eC (.str [121])) (eCons (eC (.str [121])) eNil)))) eNil))) (eCons (eCall c 7 2 [] (eCons (eTup (eCons (eC (.str [102, 117, 110])) (eCons (eC (.str [120])) (eCons (eC (.str [121])) eNil)))) (eCons (eTup (eCons (eC (.str [102, 117, 110])) (eCons (eC (.str [121])) (eCons (eC (.str [121])) eNil)))) eNil))) (eCons (eCall c 6 1 [] (eCons (eTup eNil) eNil)) eNil))))) (tgN 1)) (sSeq (sAsg (eBin addP (eVar 1) (eLst (eCons (eCall c 6 1 [] (eCons (eCl tupP3 (eCons (eC (.str [97, 98, 99, 100, 101, 102, 103, 104, 105, 106, 107, 108, 109, 110, 111, 112, 113, 114, 115, 116, 117, 118, 119, 120, 121, 122])) eNil)) eNil)) eNil))) (tgN 1)) (sSeq (sAsg (eBin addP (eVar 1) (eLst (eCons (eCall c 9 3 [(.int 0)] (eCons (eTup (eCons (eC (.str [97, 116])) (eCons (eTup (eCons (eC (.str [112, 108, 97, 99, 101])) (eCons (eC (.int 0)) eNil))) (eCons (eTup (eCons (eC (.str [102, 117, 110])) (eCons (eTup (eCons (eC (.str [97, 116])) (eCons (eTup (eCons (eC (.str [112, 108, 97, 99, 101])) (eCons (eC (.int 0)) eNil))) (eCons (eTup (eCons (eC (.str [112, 108, 97, 99, 101])) (eCons (eC (.int 1)) eNil))) eNil)))) eNil))) eNil)))) (eCons (eC (.int 2)) eNil))) (eCons (eCall c 9 3 [] (eCons (eTup (eCons (eC (.str [112, 108, 97, 99, 101])) (eCons (eC (.int 3)) eNil))) (eCons (eC (.int (-1))) (eCons (eC (.int 2)) eNil)))) (eCons (eCall c 10 3 [] (eCons (eTup (eCons (eC (.str [97, 116])) (eCons (eTup (eCons (eC (.str [112, 108, 97, 99, 101])) (eCons (eC (.int 0)) eNil))) (eCons (eTup (eCons (eC (.str [102, 117, 110])) (eCons (eTup (eCons (eC (.str [97, 116])) (eCons (eTup (eCons (eC (.str [112, 108, 97, 99, 101])) (eCons (eC (.int 1)) eNil))) (eCons (eTup (eCons (eC (.str [112, 108, 97, 99, 101])) (eCons (eC (.int 2)) eNil))) eNil)))) eNil))) eNil)))) (eCons (eC (.int 0)) (eCons (eTup (eCons (eC (.str [102, 117, 110])) (eCons (eTup (eCons (eC (.str [112, 108, 97, 99, 101])) (eCons (eC (.int 1)) eNil))) eNil))) eNil)))) (eCons (eCall c 11 1 [] (eCons (eCall c 1 2 [(.tup [])] (eCons (eTup (eCons (eC (.str [97, 116])) (eCons (eTup (eCons (eC (.str [102, 117, 110])) (eCons (eC (.str [120])) (eCons (eTup (eCons (eC (.str [97, 116])) (eCons (eC (.str [120])) (eCons (eC (.str [120])) eNil)))) eNil)))) (eCons (eC (.str [122])) eNil)))) eNil)) eNil)) eNil)))))) (tgN 1)) (sSeq (sAsg (eBin addP (eVar 1) (eLst (eCons (eCall c 12 1 [] (eCons (eCall c 1 2 [(.tup [])] (eCons (eVar 0) eNil)) eNil)) (eCons (eCall c 12 1 [] (eCons (eTup (eCons (eC (.str [97, 116])) (eCons (eC (.str [120])) (eCons (eTup (eCons (eC (.str [97, 116])) (eCons (eC (.int 3)) (eCons (eC (.str [121])) eNil)))) eNil)))) eNil)) (eCons (eCall c 13 1 [] (eCons (eTup (eCons (eC (.str [97, 116])) (eCons (eC (.str [120])) (eCons (eC (.str [121])) eNil)))) eNil)) (eCons (eCall c 14 2 [(.int 0)] (eCons (eTup (eCons (eC (.str [97, 116])) (eCons (eTup (eCons (eC (.str [112, 108, 97, 99, 101])) (eCons (eC (.int 0)) eNil))) (eCons (eTup (eCons (eC (.str [102, 117, 110])) (eCons (eTup (eCons (eC (.str [112, 108, 97, 99, 101])) (eCons (eC (.int 1)) eNil))) eNil))) eNil)))) eNil)) (eCons (eCall c 15 1 [] (eCons (eCall c 1 2 [(.tup [])] (eCons (eTup (eCons (eC (.str [102, 117, 110])) (eCons (eC (.str [120])) (eCons (eTup (eCons (eC (.str [102, 117, 110])) (eCons (eC (.str [121])) (eCons (eC (.str [120])) eNil)))) eNil)))) eNil)) eNil)) (eCons (eCall c 16 1 [] (eCons (eC (.str [48, 48, 48, 48, 49, 49, 48])) eNil)) (eCons (eCall c 17 2 [] (eCons (eC (.str [49, 49, 48, 48])) (eCons (eC (.int 0)) eNil))) eNil))))))))) (tgN 1)) (sSeq (sAsg (eBin addP (eVar 1) (eLst (eCons (eCall c 18 1 [] (eCons (eVar 0) eNil)) (eCons (eCall c 19 1 [] (eCons (eVar 0) eNil)) (eCons (eCall c 19 1 [] (eCons (eTup (eCons (eC (.str [102, 117, 110])) (eCons (eC (.str [120])) (eCons (eTup (eCons (eC (.str [97, 116])) (eCons (eC (.str [120])) (eCons (eC (.str [121])) eNil)))) eNil)))) eNil)) (eCons (eCall c 19 1 [] (eCons (eTup (eCons (eC (.str [97, 116])) (eCons (eTup (eCons (eC (.str [102, 117, 110])) (eCons (eC (.str [120])) (eCons (eC (.str [120])) eNil)))) (eCons (eC (.str [120])) eNil)))) eNil)) (eCons (eCall c 4 1 [] (eCons (eCall c 1 2 [(.tup [])] (eCons (eVar 0) eNil)) eNil)) (eCons (eCall c 5 3 [] (eCons (eTup (eCons (eC (.str [102, 117, 110])) (eCons (eTup (eCons (eC (.str [112, 108, 97, 99, 101])) (eCons (eC (.int 0)) eNil))) eNil))) (eCons (eTup eNil) (eCons (eTup (eCons (eC (.str [97])) eNil)) eNil)))) (eCons (eCall c 1 2 [] (eCons (eC (.str [120])) (eCons (eTup (eCons (eC (.str [120])) (eCons (eC (.str [121])) (eCons (eC (.str [120])) eNil)))) eNil))) (eCons (eCall c 2 2 [(.int 0)] (eCons (eC (.str [120])) eNil)) (eCons (eC (.int 1000)) eNil))))))))))) (tgN 1)) (sSeq (sAsg (eLst (eCons (eLam 0) (eCons (eLam 1) (eCons (eLam 2) (eCons (eLam 3) (eCons (eLam 4) eNil)))))) (tgN 2)) (sSeq (sAsg (eBin addP (eVar 2) (eLst (eCons (eLam 5) (eCons (eLam 6) (eCons (eLam 7) (eCons (eLam 8) (eCons (eLam 9) eNil))))))) (tgN 2)) (sSeq (sAsg (eBin addP (eVar 2) (eLst (eCons (eLam 10) (eCons (eLam 11) (eCons (eLam 12) (eCons (eLam 13) (eCons (eLam 14) eNil))))))) (tgN 2)) (sSeq (sIf (bCmp neP (eLc (iEn (eCons (eVar 2) eNil)) (tgT 2 (tgCons (tgN 4) (tgCons (tgN 5) tgNil))) (bCmp neP (eCall c 23 1 [] (eCons (eVar 5) eNil)) (eC (.str [80, 108, 97, 99, 101, 69, 114, 114, 111, 114]))) (eVar 4) [4, 5]) (eLst eNil)) (sSeq (sRet (eC (.bl false))) sNil) sNil) (sSeq (sAsg (eLst (eCons (eTup (eCons (eC (.str [102, 117, 110])) (eCons (eTup (eCons (eC (.str [102, 117, 110])) (eCons (eTup (eCons (eC (.str [97, 116])) (eCons (eTup (eCons (eC (.str [97, 116])) (eCons (eTup (eCons (eC (.str [112, 108, 97, 99, 101])) (eCons (eC (.int 1)) eNil))) (eCons (eC (.str [122])) eNil)))) (eCons (eTup (eCons (eC (.str [102, 117, 110])) (eCons (eTup (eCons (eC (.str [97, 116])) (eCons (eTup (eCons (eC (.str [112, 108, 97, 99, 101])) (eCons (eC (.int 0)) eNil))) (eCons (eTup (eCons (eC (.str [112, 108, 97, 99, 101])) (eCons (eC (.int 1)) eNil))) eNil)))) eNil))) eNil)))) eNil))) eNil))) (eCons (eTup (eCons (eC (.str [102, 117, 110])) (eCons (eC (.str [97])) (eCons (eTup (eCons (eC (.str [102, 117, 110])) (eCons (eC (.str [98])) (eCons (eTup (eCons (eC (.str [97, 116])) (eCons (eTup (eCons (eC (.str [97, 116])) (eCons (eC (.str [97])) (eCons (eC (.str [122])) eNil)))) (eCons (eTup (eCons (eC (.str [102, 117, 110])) (eCons (eC (.str [99])) (eCons (eTup (eCons (eC (.str [97, 116])) (eCons (eC (.str [99])) (eCons (eC (.str [98])) eNil)))) eNil)))) eNil)))) eNil)))) eNil)))) (eCons (eTup (eCons (eC (.str [102, 117, 110])) (eCons (eC (.str [98])) (eCons (eTup (eCons (eC (.str [97, 116])) (eCons (eC (.str [98])) (eCons (eC (.str [97])) eNil)))) eNil)))) (eCons (eC (.bl true)) (eCons (eC (.bl false)) (eCons (eC (.str [97])) (eCons (eC (.str [97, 49])) (eCons (eTup (eCons (eC (.str [97, 116])) (eCons (eTup (eCons (eC (.str [112, 108, 97, 99, 101])) (eCons (eC (.int 2)) eNil))) (eCons (eTup (eCons (eC (.str [102, 117, 110])) (eCons (eTup (eCons (eC (.str [97, 116])) (eCons (eTup (eCons (eC (.str [112, 108, 97, 99, 101])) (eCons (eC (.int 0)) eNil))) (eCons (eTup (eCons (eC (.str [112, 108, 97, 99, 101])) (eCons (eC (.int 3)) eNil))) eNil)))) eNil))) eNil)))) (eCons (eTup (eCons (eC (.str [112, 108, 97, 99, 101])) (eCons (eC (.int 2)) eNil))) (eCons (eTup (eCons (eC (.str [97, 116])) (eCons (eTup (eCons (eC (.str [102, 117, 110])) (eCons (eTup (eCons (eC (.str [112, 108, 97, 99, 101])) (eCons (eC (.int 1)) eNil))) eNil))) (eCons (eTup (eCons (eC (.str [102, 117, 110])) (eCons (eTup (eCons (eC (.str [97, 116])) (eCons (eTup (eCons (eC (.str [102, 117, 110])) (eCons (eTup (eCons (eC (.str [112, 108, 97, 99, 101])) (eCons (eC (.int 2)) eNil))) eNil))) (eCons (eTup (eCons (eC (.str [112, 108, 97, 99, 101])) (eCons (eC (.int 1)) eNil))) eNil)))) eNil))) eNil)))) (eCons (eTup (eCons (eC (.str [97, 116])) (eCons (eC (.str [122])) (eCons (eC (.str [122])) eNil)))) (eCons (eC (.str [33, 33, 40, 40, 35, 49, 32, 122, 41, 32, 33, 40, 35, 48, 32, 35, 49, 41, 41])) (eCons (eC (.str [120, 32, 40, 51, 32, 121, 41])) (eCons (eC (.str [40, 120, 32, 121, 41])) (eCons (eC (.int 2)) (eCons (eC (.str [48, 48, 48, 48, 49, 49, 48])) (eCons (eTup (eCons (eC (.str [102, 117, 110])) (eCons (eTup (eCons (eC (.str [102, 117, 110])) (eCons (eTup (eCons (eC (.str [112, 108, 97, 99, 101])) (eCons (eC (.int 1)) eNil))) eNil))) eNil))) (eCons (eTup (eCons (eTup (eCons (eC (.str [112, 108, 97, 99, 101])) (eCons (eC (.int 1)) eNil))) (eCons (eC (.int 3)) eNil))) (eCons (eC (.int 3)) (eCons (eC (.bl false)) (eCons (eC (.bl true)) (eCons (eC (.bl false)) (eCons (eTup (eCons (eC (.str [122])) eNil)) (eCons (eTup (eCons (eC (.str [102, 117, 110])) (eCons (eC (.str [98])) (eCons (eC (.str [98])) eNil)))) (eCons (eTup (eCons (eC (.str [112, 108, 97, 99, 101])) (eCons (eC (.int 0)) eNil))) (eCons (eC .non) (eCons (eC (.int 1000)) eNil)))))))))))))))))))))))))))) (tgN 3)) (sSeq (sRet (eBin eqP (eVar 1) (eVar 3))) sNil)))))))))))))
def b34 (c : Oracle) (l : LamV) (c2 : Oracle) : SF := (sSeq (sFor (iOf (eCall c 22 2 [] (eCons (eVar 0) (eCons (eC (.int 1)) eNil)))) (tgN 1) (sSeq (sPar 7 8 (eCons (eCall c 24 3 [] (eCons (eVar 1) (eCons (eC (.int 4)) (eCons (eLst eNil) eNil)))) (eCons (eCall c 24 3 [] (eCons (eVar 1) (eCons (eC (.int 3)) (eCons (eLst eNil) eNil)))) eNil))) (sSeq (sAsg (eCall c 26 2 [] (eCons (eVar 7) (eCons (eLst eNil) eNil))) (tgN 2)) (sSeq (sIf (bOr (bCmp neP (eCall c 1 2 [(.tup [])] (eCons (eVar 7) eNil)) (eVar 2)) (bOr (bCmp notNP (eCall c 2 2 [(.int 0)] (eCons (eVar 2) eNil)) (eC .non)) (bOr (bCmp neP (eCall c 26 2 [] (eCons (eCall c 3 1 [] (eCons (eVar 2) eNil)) (eCons (eLst eNil) eNil))) (eVar 2)) (bOr (bCmp neP (eCall c 8 1 [] (eCons (eVar 7) eNil)) (eCall c 3 1 [] (eCons (eVar 2) eNil))) (bCmp neP (eCl lstP (eCons (eCall c 4 1 [] (eCons (eVar 2) eNil)) eNil)) (eCl lstP (eCons (eCall c 0 1 [] (eCons (eVar 7) eNil)) eNil))))))) (sSeq (sRet (eC (.bl false))) sNil) sNil) (sSeq (sAsg (eCall c 29 2 [] (eCons (eVar 7) (eCons eDn eNil))) (tgN 3)) (sSeq (sIf (bOr (bNot (bTru (eCall c 7 2 [] (eCons (eVar 7) (eCons (eVar 3) eNil))))) (bCmp neP (eCall c 7 2 [] (eCons (eVar 7) (eCons (eVar 8) eNil))) (eBin eqP (eVar 2) (eCall c 26 2 [] (eCons (eVar 8) (eCons (eLst eNil) eNil)))))) (sSeq (sRet (eC (.bl false))) sNil) sNil) (sSeq (sPar 9 10 (eCons (eC (.int 0)) (eCons (eLst (eCons (eTup (eCons (eVar 2) (eCons (eC (.int 0)) eNil))) eNil)) eNil))) (sSeq (whL (bCmp neP (eVar 10) (eLst eNil)) (sSeq (sAsg (eCl maxP2 (eCons (eBin addP (eLst (eCons (eVar 9) eNil)) (eLc (iOf (eVar 10)) (tgT 2 (tgCons (tgN 15) (tgCons (tgN 16) tgNil))) bYes (eVar 16) [15, 16])) eNil)) (tgN 9)) (sSeq (sAsg (eCl sumP (eCons (eLc (iOf (eVar 10)) (tgT 2 (tgCons (tgN 15) (tgCons (tgN 16) tgNil))) (bTru (eIs ["tuple"] (eVar 15))) (eIf (bCmp eqP (eBin ixP (eVar 15) (eC (.int 0))) (eC (.str [102, 117, 110]))) (eLst (eCons (eTup (eCons (eBin ixP (eVar 15) (eC (.int 1))) (eCons (eBin addP (eVar 16) (eC (.int 1))) eNil))) eNil)) (eIf (bCmp eqP (eBin ixP (eVar 15) (eC (.int 0))) (eC (.str [97, 116]))) (eLst (eCons (eTup (eCons (eBin ixP (eVar 15) (eC (.int 1))) (eCons (eVar 16) eNil))) (eCons (eTup (eCons (eBin ixP (eVar 15) (eC (.int 2))) (eCons (eVar 16) eNil))) eNil))) (eLst eNil))) [15, 16]) (eCons (eLst eNil) eNil))) (tgN 10)) sNil)) 100000) (sSeq (sIf (bOr (bCmp neP (eCall c 18 1 [] (eCons (eVar 7) eNil)) (eVar 9)) (bOr (bCmp neP (eCall c 13 1 [] (eCons (eVar 2) eNil)) (eCall c 30 1 [] (eCons (eVar 2) eNil))) (bCmp neP (eCall c 12 1 [] (eCons (eVar 2) eNil)) (eIf (bAnd (bTru (eIs ["tuple"] (eVar 2))) (bCmp eqP (eBin ixP (eVar 2) (eC (.int 0))) (eC (.str [97, 116])))) (eSl (eCall c 30 1 [] (eCons (eVar 2) eNil)) (oSo (eC (.int 1))) (oSo (eC (.int (-1))))) (eCall c 30 1 [] (eCons (eVar 2) eNil)))))) (sSeq (sRet (eC (.bl false))) sNil) sNil) (sSeq (sPar3 11 12 13 (eCons (eCall c 26 2 [] (eCons (eVar 7) (eCons (eLst (eCons (eC (.str [120])) (eCons (eC (.str [121])) (eCons (eC (.str [122])) eNil)))) eNil))) (eCons (eCall c 21 2 [] (eCons (eVar 1) (eCons (eC (.int 4)) eNil))) (eCons (eCall c 21 2 [] (eCons (eVar 1) (eCons (eC (.int 3)) eNil))) eNil)))) (sSeq (sAsg (eCall c 26 2 [] (eCons (eVar 8) (eCons (eLst (eCons (eC (.str [121])) (eCons (eC (.str [122])) eNil))) eNil))) (tgN 4)) (sSeq (sIf (bOr (bCmp neP (eCall c 9 3 [] (eCons (eVar 11) (eCons (eVar 12) (eCons (eVar 13) eNil)))) (eCall c 27 3 [] (eCons (eVar 11) (eCons (eVar 12) (eCons (eVar 13) eNil))))) (bOr (bCmp neP (eCall c 10 3 [] (eCons (eVar 11) (eCons (eVar 13) (eCons (eVar 4) eNil)))) (eCall c 28 3 [] (eCons (eVar 11) (eCons (eVar 13) (eCons (eVar 4) eNil))))) (bCmp neP (eCall c 14 2 [] (eCons (eVar 11) (eCons (eVar 13) eNil))) (eCall c 32 2 [] (eCons (eVar 11) (eCons (eVar 13) eNil)))))) (sSeq (sRet (eC (.bl false))) sNil) sNil) (sSeq (sIf (bOr (bCmp neP (eCall c 11 1 [] (eCons (eTup (eCons (eC (.str [97, 116])) (eCons (eTup (eCons (eC (.str [102, 117, 110])) (eCons (eVar 11) eNil))) (eCons (eVar 4) eNil)))) eNil)) (eCall c 28 3 [] (eCons (eVar 11) (eCons (eC (.int 0)) (eCons (eVar 4) eNil))))) (bCmp neP (eCall c 10 3 [] (eCons (eCall c 9 3 [(.int 0)] (eCons (eVar 11) (eCons (eC (.int 1)) eNil))) (eCons (eC (.int 0)) (eCons (eVar 4) eNil)))) (eVar 11))) (sSeq (sRet (eC (.bl false))) sNil) sNil) (sSeq (sAsg (eCall c 26 2 [] (eCons (eCall c 25 3 [] (eCons (eVar 1) (eCons (eC (.int 4)) (eCons (eLst eNil) eNil)))) (eCons (eLst eNil) eNil))) (tgN 5)) (sSeq (sAsg (eCall c 15 1 [] (eCons (eVar 5) eNil)) (tgN 6)) (sSeq (sIf (bOr (bCmp neP (eVar 6) (eCall c 31 1 [] (eCons (eVar 5) eNil))) (bOr (bCmp neP (eCall c 16 1 [] (eCons (eVar 6) eNil)) (eVar 5)) (bCmp neP (eLc (iRg1 (eCons (eCl lenP (eCons (eVar 6) eNil)) eNil)) (tgN 14) (bCmp neP (eTold (eCall c2 16 1 [] (eCons (eSl (eVar 6) oNo (oSo (eVar 14))) eNil)) catch_PlaceError [80, 108, 97, 99, 101, 69, 114, 114, 111, 114]) (eC (.str [80, 108, 97, 99, 101, 69, 114, 114, 111, 114]))) (eVar 14) [14]) (eLst eNil)))) (sSeq (sRet (eC (.bl false))) sNil) sNil) (sSeq (sIf (bOr (bCmp neP (eCall c 17 2 [] (eCons (eBin addP (eC (.str [49])) (eVar 6)) (eCons (eC (.int 1)) eNil))) (eTup (eCons (eVar 5) (eCons (eBin addP (eCl lenP (eCons (eVar 6) eNil)) (eC (.int 1))) eNil)))) (bCmp neP (eCall c 6 1 [] (eCons (eSl (eTup (eCons (eC (.str [97])) (eCons (eC (.str [98])) (eCons (eC (.str [99])) eNil)))) oNo (oSo (eVar 13))) eNil)) (eBin ixP (eC (.str [97, 98, 99, 100])) (eVar 13)))) (sSeq (sRet (eC (.bl false))) sNil) sNil) sNil))))))))))))))))) (sSeq (sRet (eCall c 33 0 [] eNil)) sNil))
def bodyOf (c : Oracle) (l : LamV) (c2 : Oracle) : Nat → List PV → Store → R PV
  | 0 => runB 3 (b0 c l c2)
  | 1 => runB 2 (b1 c l c2)
  | 2 => runB 2 (b2 c l c2)
  | 3 => runB 1 (b3 c l c2)
  | 4 => runB 2 (b4 c l c2)
  | 5 => runB 4 (b5 c l c2)
  | 6 => runB 4 (b6 c l c2)
  | 7 => runB 2 (b7 c l c2)
  | 8 => runB 1 (b8 c l c2)
  | 9 => runB 3 (b9 c l c2)
  | 10 => runB 3 (b10 c l c2)
  | 11 => runB 1 (b11 c l c2)
  | 12 => runB 2 (b12 c l c2)
  | 13 => runB 1 (b13 c l c2)
  | 14 => runB 2 (b14 c l c2)
  | 15 => runB 1 (b15 c l c2)
  | 16 => runB 3 (b16 c l c2)
  | 17 => runB 7 (b17 c l c2)
  | 18 => runB 1 (b18 c l c2)
  | 19 => runB 4 (b19 c l c2)
  | 20 => runB 1 (b20 c l c2)
  | 21 => runB 3 (b21 c l c2)
  | 22 => runB 4 (b22 c l c2)
  | 23 => runB 1 (b23 c l c2)
  | 24 => runB 5 (b24 c l c2)
  | 25 => runB 5 (b25 c l c2)
  | 26 => runB 5 (b26 c l c2)
  | 27 => runB 3 (b27 c l c2)
  | 28 => runB 3 (b28 c l c2)
  | 29 => runB 5 (b29 c l c2)
  | 30 => runB 1 (b30 c l c2)
  | 31 => runB 1 (b31 c l c2)
  | 32 => runB 2 (b32 c l c2)
  | 33 => runB 6 (b33 c l c2)
  | 34 => runB 17 (b34 c l c2)
  | _ => fun _ _ => .bad
def badO : Oracle := fun _ _ _ => .bad
def callL : Nat → Oracle × LamV × Oracle × Oracle
  | 0 => (badO, fun _ => none, badO, badO)
  | d + 1 => (bodyOf (callL d).1 (callL d).2.1 (callL d).2.2.2, lamF (callL d).1, (callL d).1, (callL d).2.2.1)
def callF (d : Nat) : Oracle := (callL d).1
def lamP (d : Nat) : LamV := (callL d).2.1
def callT (d : Nat) : Oracle := (callL d).2.2.2
def lamsE : Expr → List (Arguments × Expr × Scope)
  | .List es _ => es.filterMap fun e => match e with
    | .Lambda a b s _ => some (a, b, s)
    | _ => none
  | .BinOp _ _ b _ => lamsE b
  | _ => []
def lamsS : Stmt → List (Arguments × Expr × Scope)
  | .Assign _ v _ => lamsE v
  | _ => []
def ltK (j : Nat) : LamT := match ((defBody (top 40)).flatMap lamsS)[j]? with
  | some (a, b, s) => ⟨"_law_plain.<locals>.<lambda>", a, b, s⟩
  | none => ⟨"", ⟨[], [], none, [], [], none, []⟩, .Name "" ⟨0, 0, 0, 0⟩, ⟨.function, [], false, false, []⟩⟩
/-! ### what the top has written -/
structure Hd (K : PySem.W.Frag) (mg : Str → Option Value) (base : Heap) (g : G) (C_PlaceError : Addr) (cd : Nat → Addr) (tb : Nat → Addr) : Prop where
  gK : K = g.K
  m_abs : mg "abs" = none
  m_any : mg "any" = none
  m_dict : mg "dict" = none
  m_enumerate : mg "enumerate" = none
  m_int : mg "int" = none
  m_isinstance : mg "isinstance" = none
  m_len : mg "len" = none
  m_list : mg "list" = none
  m_max : mg "max" = none
  m_range : mg "range" = none
  m_str : mg "str" = none
  m_sum : mg "sum" = none
  m_tuple : mg "tuple" = none
  c_FREE_BASE : ∃ t, mg "FREE_BASE" = some (.int 1000 t)
  x_PlaceError : ExcT K mg g "PlaceError" 1 C_PlaceError
  t_PlaceError : Cat g K (.ref C_PlaceError) catch_PlaceError
  u__law_told : ToldF K mg "_law_told" "what" (top 30)
  tb17 : GxR.TabB base mg (cd 17) (tb 17)
  hT17 : (tb 17, none) ∈ g.T
  hu17 : ∀ p ∈ g.T, p.1 = tb 17 → p.2 = none
  tb33 : LamX.TabB base mg (cd 33) (tb 33)
  hT33 : (tb 33, some ("_law_plain.<locals>.<lambda>" : Str)) ∈ g.T
  hu33 : ∀ p ∈ g.T, p.1 = tb 33 → p.2 = some ("_law_plain.<locals>.<lambda>" : Str)
  tb34 : LamX.TabB base mg (cd 34) (tb 34)
  hT34 : (tb 34, some ("law.<locals>.<lambda>" : Str)) ∈ g.T
  hu34 : ∀ p ∈ g.T, p.1 = tb 34 → p.2 = some ("law.<locals>.<lambda>" : Str)
  lt : ∀ j, g.lt j = ltK j
structure FsF (P : Program) (w : World) (K : PySem.W.Frag) (mg : Str → Option Value) (base : Heap) (g : G) (c : Oracle) (k : Nat) : Prop where
  f0 : FnF P w K mg base g c k 0 "free_names" 1 []
  f1 : FnF P w K mg base g c k 1 "to_places" 2 []
  f1d1 : FnF P w K mg base g c k 1 "to_places" 2 [(.tup [])]
  f2 : FnF P w K mg base g c k 2 "check_places" 2 []
  f2d1 : FnF P w K mg base g c k 2 "check_places" 2 [(.int 0)]
  f3 : FnF P w K mg base g c k 3 "from_places" 1 []
  f4 : FnF P w K mg base g c k 4 "free_in" 1 []
  f5 : FnF P w K mg base g c k 5 "named" 3 []
  f6 : FnF P w K mg base g c k 6 "fresh_name" 1 []
  f7 : FnF P w K mg base g c k 7 "same_but_names" 2 []
  f8 : FnF P w K mg base g c k 8 "plain_names" 1 []
  f9 : FnF P w K mg base g c k 9 "moved" 3 []
  f9d1 : FnF P w K mg base g c k 9 "moved" 3 [(.int 0)]
  f10 : FnF P w K mg base g c k 10 "put_in" 3 []
  f11 : FnF P w K mg base g c k 11 "step_here" 1 []
  f12 : FnF P w K mg base g c k 12 "told_short" 1 []
  f13 : FnF P w K mg base g c k 13 "told_within" 1 []
  f14 : FnF P w K mg base g c k 14 "uses_of" 2 []
  f14d1 : FnF P w K mg base g c k 14 "uses_of" 2 [(.int 0)]
  f15 : FnF P w K mg base g c k 15 "bits_of" 1 []
  f16 : FnF P w K mg base g c k 16 "read_bits" 1 []
  f17 : FnF P w K mg base g c k 17 "read_bits_from" 2 []
  f18 : FnF P w K mg base g c k 18 "names_needed" 1 []
  f19 : FnF P w K mg base g c k 19 "is_plain" 1 []
  f20 : FnF P w K mg base g c k 20 "_law_dice" 1 []
  f21 : FnF P w K mg base g c k 21 "_law_roll" 2 []
  f22 : FnF P w K mg base g c k 22 "_law_rounds" 2 []
  f23 : FnF P w K mg base g c k 23 "_law_told" 1 []
  f24 : FnF P w K mg base g c k 24 "_law_term" 3 []
  f25 : FnF P w K mg base g c k 25 "_law_closed" 3 []
  f26 : FnF P w K mg base g c k 26 "_law_places" 2 []
  f27 : FnF P w K mg base g c k 27 "_law_moved" 3 []
  f28 : FnF P w K mg base g c k 28 "_law_put" 3 []
  f29 : FnF P w K mg base g c k 29 "_law_other_names" 2 []
  f30 : FnF P w K mg base g c k 30 "_law_text" 1 []
  f31 : FnF P w K mg base g c k 31 "_law_bits" 1 []
  f32 : FnF P w K mg base g c k 32 "_law_uses" 2 []
  f33 : FnF P w K mg base g c k 33 "_law_plain" 0 []
structure Fs (P : Program) (w : World) (K : PySem.W.Frag) (mg : Str → Option Value) (base : Heap) (g : G) (c : Oracle) (l : LamV) (c2 : Oracle) (k : Nat) : Prop extends FsF P w K mg base g c k where
  lam : ∀ j fn, l j = some fn → ∃ k', k' + 1 = k ∧ LamOk P w K mg base g k' j fn
  told : ∃ k', k' + 2 = k ∧ FsF P w K mg base g c2 k'
/-! ### derivations -/
theorem sc0 : FnScope ["term", "found", "name"] ["term"] (defScope (top 4)) := ⟨rfl, rfl, rfl, by decide +kernel, rfl, by decide +kernel, by decide +kernel⟩
theorem sc1 : FnScope ["term", "around"] ["term", "around"] (defScope (top 7)) := ⟨rfl, rfl, rfl, by decide +kernel, rfl, by decide +kernel, by decide +kernel⟩
theorem sc2 : FnScope ["term", "deep"] ["term", "deep"] (defScope (top 8)) := ⟨rfl, rfl, rfl, by decide +kernel, rfl, by decide +kernel, by decide +kernel⟩
theorem sc3 : FnScope ["term"] ["term"] (defScope (top 9)) := ⟨rfl, rfl, rfl, by decide +kernel, rfl, by decide +kernel, by decide +kernel⟩
theorem sc4 : FnScope ["term", "name"] ["term"] (defScope (top 10)) := ⟨rfl, rfl, rfl, by decide +kernel, rfl, by decide +kernel, by decide +kernel⟩
theorem sc5 : FnScope ["term", "around", "taken", "name"] ["term", "around", "taken"] (defScope (top 11)) := ⟨rfl, rfl, rfl, by decide +kernel, rfl, by decide +kernel, by decide +kernel⟩
theorem sc6 : FnScope ["taken", "turn", "sign", "name"] ["taken"] (defScope (top 12)) := ⟨rfl, rfl, rfl, by decide +kernel, rfl, by decide +kernel, by decide +kernel⟩
theorem sc7 : FnScope ["one", "other"] ["one", "other"] (defScope (top 13)) := ⟨rfl, rfl, rfl, by decide +kernel, rfl, by decide +kernel, by decide +kernel⟩
theorem sc8 : FnScope ["term"] ["term"] (defScope (top 14)) := ⟨rfl, rfl, rfl, by decide +kernel, rfl, by decide +kernel, by decide +kernel⟩
theorem sc9 : FnScope ["term", "by", "out"] ["term", "by", "out"] (defScope (top 15)) := ⟨rfl, rfl, rfl, by decide +kernel, rfl, by decide +kernel, by decide +kernel⟩
theorem sc10 : FnScope ["term", "out", "other"] ["term", "out", "other"] (defScope (top 16)) := ⟨rfl, rfl, rfl, by decide +kernel, rfl, by decide +kernel, by decide +kernel⟩
theorem sc11 : FnScope ["term"] ["term"] (defScope (top 17)) := ⟨rfl, rfl, rfl, by decide +kernel, rfl, by decide +kernel, by decide +kernel⟩
theorem sc12 : FnScope ["term", "found"] ["term"] (defScope (top 18)) := ⟨rfl, rfl, rfl, by decide +kernel, rfl, by decide +kernel, by decide +kernel⟩
theorem sc13 : FnScope ["term"] ["term"] (defScope (top 19)) := ⟨rfl, rfl, rfl, by decide +kernel, rfl, by decide +kernel, by decide +kernel⟩
theorem sc14 : FnScope ["term", "out"] ["term", "out"] (defScope (top 20)) := ⟨rfl, rfl, rfl, by decide +kernel, rfl, by decide +kernel, by decide +kernel⟩
theorem sc15 : FnScope ["term"] ["term"] (defScope (top 21)) := ⟨rfl, rfl, rfl, by decide +kernel, rfl, by decide +kernel, by decide +kernel⟩
theorem sc16 : FnScope ["text", "term", "place"] ["text"] (defScope (top 22)) := ⟨rfl, rfl, rfl, by decide +kernel, rfl, by decide +kernel, by decide +kernel⟩
theorem sc17 : FnScope ["text", "place", "many", "term", "behind", "one", "other"] ["text", "place"] (defScope (top 23)) := ⟨rfl, rfl, rfl, by decide +kernel, rfl, by decide +kernel, by decide +kernel⟩
theorem sc18 : FnScope ["term"] ["term"] (defScope (top 24)) := ⟨rfl, rfl, rfl, by decide +kernel, rfl, by decide +kernel, by decide +kernel⟩
theorem sc19 : FnScope ["term", "names", "left", "one"] ["term"] (defScope (top 25)) := ⟨rfl, rfl, rfl, by decide +kernel, rfl, by decide +kernel, by decide +kernel⟩
theorem sc20 : FnScope ["cell"] ["cell"] (defScope (top 27)) := ⟨rfl, rfl, rfl, by decide +kernel, rfl, by decide +kernel, by decide +kernel⟩
theorem sc21 : FnScope ["dice", "many", "found"] ["dice", "many"] (defScope (top 28)) := ⟨rfl, rfl, rfl, by decide +kernel, rfl, by decide +kernel, by decide +kernel⟩
theorem sc22 : FnScope ["script", "most", "cells", "cell"] ["script", "most"] (defScope (top 29)) := ⟨rfl, rfl, rfl, by decide +kernel, rfl, by decide +kernel, by decide +kernel⟩
theorem sc23 : FnScope ["what"] ["what"] (defScope (top 30)) := ⟨rfl, rfl, rfl, by decide +kernel, rfl, by decide +kernel, by decide +kernel⟩
theorem sc24 : FnScope ["dice", "deep", "names", "sort", "name"] ["dice", "deep", "names"] (defScope (top 31)) := ⟨rfl, rfl, rfl, by decide +kernel, rfl, by decide +kernel, by decide +kernel⟩
theorem sc25 : FnScope ["dice", "deep", "names", "sort", "name"] ["dice", "deep", "names"] (defScope (top 32)) := ⟨rfl, rfl, rfl, by decide +kernel, rfl, by decide +kernel, by decide +kernel⟩
theorem sc26 : FnScope ["term", "around", "spots", "k", "name"] ["term", "around"] (defScope (top 33)) := ⟨rfl, rfl, rfl, by decide +kernel, rfl, by decide +kernel, by decide +kernel⟩
theorem sc27 : FnScope ["term", "by", "out"] ["term", "by", "out"] (defScope (top 34)) := ⟨rfl, rfl, rfl, by decide +kernel, rfl, by decide +kernel, by decide +kernel⟩
theorem sc28 : FnScope ["term", "out", "other"] ["term", "out", "other"] (defScope (top 35)) := ⟨rfl, rfl, rfl, by decide +kernel, rfl, by decide +kernel, by decide +kernel⟩
theorem sc29 : FnScope ["term", "table", "inner", "name", "other"] ["term", "table"] (defScope (top 36)) := ⟨rfl, rfl, rfl, by decide +kernel, rfl, by decide +kernel, by decide +kernel⟩
theorem sc30 : FnScope ["term"] ["term"] (defScope (top 37)) := ⟨rfl, rfl, rfl, by decide +kernel, rfl, by decide +kernel, by decide +kernel⟩
theorem sc31 : FnScope ["term"] ["term"] (defScope (top 38)) := ⟨rfl, rfl, rfl, by decide +kernel, rfl, by decide +kernel, by decide +kernel⟩
theorem sc32 : FnScope ["term", "out"] ["term", "out"] (defScope (top 39)) := ⟨rfl, rfl, rfl, by decide +kernel, rfl, by decide +kernel, by decide +kernel⟩
theorem sc33 : FnScope ["term", "told", "bad", "due", "k", "f"] [] (defScope (top 40)) := ⟨rfl, rfl, rfl, by decide +kernel, rfl, by decide +kernel, by decide +kernel⟩
theorem sc34 : FnScope ["script", "dice", "due", "fresh", "value", "closed", "bits", "term", "other", "deep", "row", "body", "by", "out", "k", "one", "many"] ["script"] (defScope (top 41)) := ⟨rfl, rfl, rfl, by decide +kernel, rfl, by decide +kernel, by decide +kernel⟩
section
variable {P : Program} {w : World} {K : PySem.W.Frag} {mg : Str → Option Value} {base : Heap} {g : G} {c : Oracle} {l : LamV} {c2 : Oracle} {k : Nat} {C_PlaceError : Addr} {cd tb : Nat → Addr}
theorem nd0 : (["term", "found", "name"] : List Str).Nodup := by decide +kernel
theorem d0 (hd : Hd K mg base g C_PlaceError cd tb) (Fs : Fs P w K mg base g c l c2 k) {f : Addr} {A : Around} {outer : List Env} {s : Shared} {H : Hp} {E : XK} (hr : Room k (A.deeper (envOfC "free_names" (defScope (top 4)) s.heap.objs.size f (.ref (cd 0))))) :
    SSs (cxOf (L2.CX P w) P w K mg base ["term", "found", "name"] "free_names" (defScope (top 4)) f (.ref (cd 0)) A outer s H E) g (fun cls d _ H => E cls d H) (defBody (top 4)) (b0 c l c2) :=
    (ss_cons (ss_set nd0 rfl (by walk_at "lo") se_dnew)
      (ss_cons (ss_if (st_tru hd.gK (se_is1 "str" hd.gK (by decide) (by walk_at "gl") hd.m_isinstance (by walk_at "gl") hd.m_str (by rfl) (by decide) (se_var (i := 0) rfl (by walk_at "vv")))) (ss_cons (ss_asg se_bl (sg_sub (W := WF) (hu_of hr) (se_var (i := 1) rfl (by walk_at "vv")) (se_var (i := 0) rfl (by walk_at "vv"))))
      ss_nil) (ss_cons (ss_if (st_w (sw_and (st_tru hd.gK (se_is1 "tuple" hd.gK (by decide) (by walk_at "gl") hd.m_isinstance (by walk_at "gl") hd.m_tuple (by rfl) (by decide) (se_var (i := 0) rfl (by walk_at "vv")))) (sw_and1 (st_cmp (opEq hd.gK hr.units) (se_ix hd.gK (se_var (i := 0) rfl (by walk_at "vv")) se_int) (se_str [102, 117, 110]))))) (ss_cons (ss_setDc rfl nd0 rfl rfl rfl (si_any hd.gK (se_call Fs.f0 hd.gK hr (takes_of rfl rfl rfl rfl) (by walk_at "gl") (sa_cons (se_ix hd.gK (se_var (i := 0) rfl (by walk_at "vv")) se_int) sa_nil))) (blkOk_by (own := [("name", 2)]) (by walk_at "blk")) (fun _ _ _ _ _ => (sgc_name (i := 2) nd0 rfl (by decide) (by walk_at "lo"))) (fun _ _ _ _ _ => (sts_one (st_cmp (opNe hd.gK hr.units) (se_var (i := 2) rfl (by walk_at "vv")) (se_ix hd.gK (se_var (i := 0) rfl (by walk_at "vv")) se_int)))) (fun _ _ _ _ _ => (se_var (i := 2) rfl (by walk_at "vv"))) (fun _ _ _ _ _ => se_bl))
      ss_nil) (ss_cons (ss_if (st_tru hd.gK (se_is1 "tuple" hd.gK (by decide) (by walk_at "gl") hd.m_isinstance (by walk_at "gl") hd.m_tuple (by rfl) (by decide) (se_var (i := 0) rfl (by walk_at "vv")))) (ss_cons (ss_setDc rfl nd0 rfl rfl rfl (si_any hd.gK (se_bin (opAdd hd.gK) (se_call Fs.f0 hd.gK hr (takes_of rfl rfl rfl rfl) (by walk_at "gl") (sa_cons (se_ix hd.gK (se_var (i := 0) rfl (by walk_at "vv")) se_int) sa_nil)) (se_call Fs.f0 hd.gK hr (takes_of rfl rfl rfl rfl) (by walk_at "gl") (sa_cons (se_ix hd.gK (se_var (i := 0) rfl (by walk_at "vv")) se_int) sa_nil)))) (blkOk_by (own := [("name", 2)]) (by walk_at "blk")) (fun _ _ _ _ _ => (sgc_name (i := 2) nd0 rfl (by decide) (by walk_at "lo"))) (fun _ _ _ _ _ => sts_nil) (fun _ _ _ _ _ => (se_var (i := 2) rfl (by walk_at "vv"))) (fun _ _ _ _ _ => se_bl))
      ss_nil) ss_nil)
      ss_nil))
      ss_nil))
      (ss_cons (ss_ret (se_callTy (callTup3 hd.gK rfl) (by walk_at "gl") hd.m_tuple (by rfl) (sa_cons (se_var (i := 1) rfl (by walk_at "vv")) sa_nil)))
      ss_nil)))
theorem nd1 : (["term", "around"] : List Str).Nodup := by decide +kernel
theorem d1 (hd : Hd K mg base g C_PlaceError cd tb) (Fs : Fs P w K mg base g c l c2 k) {f : Addr} {A : Around} {outer : List Env} {s : Shared} {H : Hp} {E : XK} (hr : Room k (A.deeper (envOfC "to_places" (defScope (top 7)) s.heap.objs.size f (.ref (cd 1))))) :
    SSs (cxOf (L2.CX P w) P w K mg base ["term", "around"] "to_places" (defScope (top 7)) f (.ref (cd 1)) A outer s H E) g (fun cls d _ H => E cls d H) (defBody (top 7)) (b1 c l c2) :=
    (ss_cons (ss_if (st_tru hd.gK (se_is1 "str" hd.gK (by decide) (by walk_at "gl") hd.m_isinstance (by walk_at "gl") hd.m_str (by rfl) (by decide) (se_var (i := 0) rfl (by walk_at "vv")))) (ss_cons (ss_ret (se_if (st_cmp (opIn hd.gK) (se_var (i := 0) rfl (by walk_at "vv")) (se_var (i := 1) rfl (by walk_at "vv"))) (se_tup (sa_cons (se_str [112, 108, 97, 99, 101]) (sa_cons (se_rix (i := 0) hd.gK (se_var (i := 1) rfl (by walk_at "vv")) rfl (by walk_at "vv")) sa_nil))) (se_var (i := 0) rfl (by walk_at "vv"))))
      ss_nil) ss_nil)
      (ss_cons (ss_if (st_tru hd.gK (se_is1 "int" hd.gK (by decide) (by walk_at "gl") hd.m_isinstance (by walk_at "gl") hd.m_int (by rfl) (by decide) (se_var (i := 0) rfl (by walk_at "vv")))) (ss_cons (ss_ret (se_var (i := 0) rfl (by walk_at "vv")))
      ss_nil) ss_nil)
      (ss_cons (ss_if (st_cmp (opEq hd.gK hr.units) (se_ix hd.gK (se_var (i := 0) rfl (by walk_at "vv")) se_int) (se_str [102, 117, 110])) (ss_cons (ss_ret (se_tup (sa_cons (se_str [102, 117, 110]) (sa_cons (se_call Fs.f1 hd.gK hr (takes_of rfl rfl rfl rfl) (by walk_at "gl") (sa_cons (se_ix hd.gK (se_var (i := 0) rfl (by walk_at "vv")) se_int) (sa_cons (se_bin (opAdd hd.gK) (se_var (i := 1) rfl (by walk_at "vv")) (se_tup (sa_cons (se_ix hd.gK (se_var (i := 0) rfl (by walk_at "vv")) se_int) sa_nil))) sa_nil))) sa_nil))))
      ss_nil) ss_nil)
      (ss_cons (ss_ret (se_tup (sa_cons (se_str [97, 116]) (sa_cons (se_call Fs.f1 hd.gK hr (takes_of rfl rfl rfl rfl) (by walk_at "gl") (sa_cons (se_ix hd.gK (se_var (i := 0) rfl (by walk_at "vv")) se_int) (sa_cons (se_var (i := 1) rfl (by walk_at "vv")) sa_nil))) (sa_cons (se_call Fs.f1 hd.gK hr (takes_of rfl rfl rfl rfl) (by walk_at "gl") (sa_cons (se_ix hd.gK (se_var (i := 0) rfl (by walk_at "vv")) se_int) (sa_cons (se_var (i := 1) rfl (by walk_at "vv")) sa_nil))) sa_nil)))))
      ss_nil))))
theorem nd2 : (["term", "deep"] : List Str).Nodup := by decide +kernel
theorem d2 (hd : Hd K mg base g C_PlaceError cd tb) (Fs : Fs P w K mg base g c l c2 k) {f : Addr} {A : Around} {outer : List Env} {s : Shared} {H : Hp} {E : XK} (hr : Room k (A.deeper (envOfC "check_places" (defScope (top 8)) s.heap.objs.size f (.ref (cd 2))))) :
    SSs (cxOf (L2.CX P w) P w K mg base ["term", "deep"] "check_places" (defScope (top 8)) f (.ref (cd 2)) A outer s H E) g (fun cls d _ H => E cls d H) (defBody (top 8)) (b2 c l c2) :=
    (ss_cons (ss_if (st_tru hd.gK (se_is2 "str" "int" hd.gK (by decide) (by decide) (by walk_at "gl") hd.m_isinstance (by walk_at "gl") hd.m_str (by rfl) (by decide) (by walk_at "gl") hd.m_int (by rfl) (by decide) (se_var (i := 0) rfl (by walk_at "vv")))) (ss_cons ss_retN
      ss_nil) ss_nil)
      (ss_cons (ss_if (st_w (sw_and (st_cmp (opEq hd.gK hr.units) (se_callB (callLen hd.gK) (by walk_at "gl") hd.m_len (by rfl) (sa_cons (se_var (i := 0) rfl (by walk_at "vv")) sa_nil)) se_int) (sw_and1 (st_cmp (opEq hd.gK hr.units) (se_ix hd.gK (se_var (i := 0) rfl (by walk_at "vv")) se_int) (se_str [112, 108, 97, 99, 101]))))) (ss_cons (ss_if (st_not (st_chn (opLe) (opLt) se_int (se_ix hd.gK (se_var (i := 0) rfl (by walk_at "vv")) se_int) (se_var (i := 1) rfl (by walk_at "vv")))) (ss_cons (ss_raise rfl (takes_of rfl rfl rfl rfl) PySem.F.excBase_ValueError hd.x_PlaceError.cv hd.x_PlaceError.q hd.x_PlaceError.gC hd.x_PlaceError.kC (raises_own hd.x_PlaceError.eC hd.x_PlaceError.tC) (by walk_at "gl"))
      ss_nil) ss_nil)
      ss_nil) (ss_cons (ss_if (st_w (sw_and (st_cmp (opEq hd.gK hr.units) (se_callB (callLen hd.gK) (by walk_at "gl") hd.m_len (by rfl) (sa_cons (se_var (i := 0) rfl (by walk_at "vv")) sa_nil)) se_int) (sw_and1 (st_cmp (opEq hd.gK hr.units) (se_ix hd.gK (se_var (i := 0) rfl (by walk_at "vv")) se_int) (se_str [102, 117, 110]))))) (ss_cons (ss_expr (se_call Fs.f2 hd.gK hr (takes_of rfl rfl rfl rfl) (by walk_at "gl") (sa_cons (se_ix hd.gK (se_var (i := 0) rfl (by walk_at "vv")) se_int) (sa_cons (se_bin (opAdd hd.gK) (se_var (i := 1) rfl (by walk_at "vv")) se_int) sa_nil))))
      ss_nil) (ss_cons (ss_if (st_w (sw_and (st_cmp (opEq hd.gK hr.units) (se_callB (callLen hd.gK) (by walk_at "gl") hd.m_len (by rfl) (sa_cons (se_var (i := 0) rfl (by walk_at "vv")) sa_nil)) se_int) (sw_and1 (st_cmp (opEq hd.gK hr.units) (se_ix hd.gK (se_var (i := 0) rfl (by walk_at "vv")) se_int) (se_str [97, 116]))))) (ss_cons (ss_expr (se_call Fs.f2 hd.gK hr (takes_of rfl rfl rfl rfl) (by walk_at "gl") (sa_cons (se_ix hd.gK (se_var (i := 0) rfl (by walk_at "vv")) se_int) (sa_cons (se_var (i := 1) rfl (by walk_at "vv")) sa_nil))))
      (ss_cons (ss_expr (se_call Fs.f2 hd.gK hr (takes_of rfl rfl rfl rfl) (by walk_at "gl") (sa_cons (se_ix hd.gK (se_var (i := 0) rfl (by walk_at "vv")) se_int) (sa_cons (se_var (i := 1) rfl (by walk_at "vv")) sa_nil))))
      ss_nil)) (ss_cons (ss_raise rfl (takes_of rfl rfl rfl rfl) PySem.F.excBase_ValueError hd.x_PlaceError.cv hd.x_PlaceError.q hd.x_PlaceError.gC hd.x_PlaceError.kC (raises_own hd.x_PlaceError.eC hd.x_PlaceError.tC) (by walk_at "gl"))
      ss_nil))
      ss_nil))
      ss_nil))
      ss_nil))
theorem nd3 : (["term"] : List Str).Nodup := by decide +kernel
theorem d3 (hd : Hd K mg base g C_PlaceError cd tb) (Fs : Fs P w K mg base g c l c2 k) {f : Addr} {A : Around} {outer : List Env} {s : Shared} {H : Hp} {E : XK} (hr : Room k (A.deeper (envOfC "from_places" (defScope (top 9)) s.heap.objs.size f (.ref (cd 3))))) :
    SSs (cxOf (L2.CX P w) P w K mg base ["term"] "from_places" (defScope (top 9)) f (.ref (cd 3)) A outer s H E) g (fun cls d _ H => E cls d H) (defBody (top 9)) (b3 c l c2) :=
    (ss_cons (ss_expr (se_call Fs.f2d1 hd.gK hr (takes_of rfl rfl rfl rfl) (by walk_at "gl") (sa_cons (se_var (i := 0) rfl (by walk_at "vv")) sa_nil)))
      (ss_cons (ss_ret (se_call Fs.f5 hd.gK hr (takes_of rfl rfl rfl rfl) (by walk_at "gl") (sa_cons (se_var (i := 0) rfl (by walk_at "vv")) (sa_cons (se_tup sa_nil) (sa_cons (se_call Fs.f4 hd.gK hr (takes_of rfl rfl rfl rfl) (by walk_at "gl") (sa_cons (se_var (i := 0) rfl (by walk_at "vv")) sa_nil)) sa_nil)))))
      ss_nil))
theorem nd4 : (["term", "name"] : List Str).Nodup := by decide +kernel
theorem d4 (hd : Hd K mg base g C_PlaceError cd tb) (Fs : Fs P w K mg base g c l c2 k) {f : Addr} {A : Around} {outer : List Env} {s : Shared} {H : Hp} {E : XK} (hr : Room k (A.deeper (envOfC "free_in" (defScope (top 10)) s.heap.objs.size f (.ref (cd 4))))) :
    SSs (cxOf (L2.CX P w) P w K mg base ["term", "name"] "free_in" (defScope (top 10)) f (.ref (cd 4)) A outer s H E) g (fun cls d _ H => E cls d H) (defBody (top 10)) (b4 c l c2) :=
    (ss_cons (ss_if (st_tru hd.gK (se_is1 "str" hd.gK (by decide) (by walk_at "gl") hd.m_isinstance (by walk_at "gl") hd.m_str (by rfl) (by decide) (se_var (i := 0) rfl (by walk_at "vv")))) (ss_cons (ss_ret (se_tup (sa_cons (se_var (i := 0) rfl (by walk_at "vv")) sa_nil)))
      ss_nil) ss_nil)
      (ss_cons (ss_if (st_w (sw_or (st_tru hd.gK (se_is1 "int" hd.gK (by decide) (by walk_at "gl") hd.m_isinstance (by walk_at "gl") hd.m_int (by rfl) (by decide) (se_var (i := 0) rfl (by walk_at "vv")))) (sw_or1 (st_cmp (opEq hd.gK hr.units) (se_ix hd.gK (se_var (i := 0) rfl (by walk_at "vv")) se_int) (se_str [112, 108, 97, 99, 101]))))) (ss_cons (ss_ret (se_tup sa_nil))
      ss_nil) ss_nil)
      (ss_cons (ss_if (st_cmp (opEq hd.gK hr.units) (se_ix hd.gK (se_var (i := 0) rfl (by walk_at "vv")) se_int) (se_str [102, 117, 110])) (ss_cons (ss_ret (se_call Fs.f4 hd.gK hr (takes_of rfl rfl rfl rfl) (by walk_at "gl") (sa_cons (se_ix hd.gK (se_var (i := 0) rfl (by walk_at "vv")) se_int) sa_nil)))
      ss_nil) ss_nil)
      (ss_cons (ss_ret (se_callTy (callTup3 hd.gK rfl) (by walk_at "gl") hd.m_tuple (by rfl) (sa_cons (se_dc rfl nd4 (si_any hd.gK (se_bin (opAdd hd.gK) (se_call Fs.f4 hd.gK hr (takes_of rfl rfl rfl rfl) (by walk_at "gl") (sa_cons (se_ix hd.gK (se_var (i := 0) rfl (by walk_at "vv")) se_int) sa_nil)) (se_call Fs.f4 hd.gK hr (takes_of rfl rfl rfl rfl) (by walk_at "gl") (sa_cons (se_ix hd.gK (se_var (i := 0) rfl (by walk_at "vv")) se_int) sa_nil)))) (blkOk_by (own := [("name", 1)]) (by walk_at "blk")) (fun _ _ _ _ _ => (sgc_name (i := 1) nd4 rfl (by decide) (by walk_at "lo"))) (fun _ _ _ _ _ => sts_nil) (fun _ _ _ _ _ => (se_var (i := 1) rfl (by walk_at "vv"))) (fun _ _ _ _ _ => se_bl)) sa_nil)))
      ss_nil))))
theorem nd5 : (["term", "around", "taken", "name"] : List Str).Nodup := by decide +kernel
theorem d5 (hd : Hd K mg base g C_PlaceError cd tb) (Fs : Fs P w K mg base g c l c2 k) {f : Addr} {A : Around} {outer : List Env} {s : Shared} {H : Hp} {E : XK} (hr : Room k (A.deeper (envOfC "named" (defScope (top 11)) s.heap.objs.size f (.ref (cd 5))))) :
    SSs (cxOf (L2.CX P w) P w K mg base ["term", "around", "taken", "name"] "named" (defScope (top 11)) f (.ref (cd 5)) A outer s H E) g (fun cls d _ H => E cls d H) (defBody (top 11)) (b5 c l c2) :=
    (ss_cons (ss_if (st_tru hd.gK (se_is2 "str" "int" hd.gK (by decide) (by decide) (by walk_at "gl") hd.m_isinstance (by walk_at "gl") hd.m_str (by rfl) (by decide) (by walk_at "gl") hd.m_int (by rfl) (by decide) (se_var (i := 0) rfl (by walk_at "vv")))) (ss_cons (ss_ret (se_var (i := 0) rfl (by walk_at "vv")))
      ss_nil) ss_nil)
      (ss_cons (ss_if (st_cmp (opEq hd.gK hr.units) (se_ix hd.gK (se_var (i := 0) rfl (by walk_at "vv")) se_int) (se_str [112, 108, 97, 99, 101])) (ss_cons (ss_ret (se_ix hd.gK (se_var (i := 1) rfl (by walk_at "vv")) (se_bin (opSub) (se_bin (opSub) (se_callB (callLen hd.gK) (by walk_at "gl") hd.m_len (by rfl) (sa_cons (se_var (i := 1) rfl (by walk_at "vv")) sa_nil)) se_int) (se_ix hd.gK (se_var (i := 0) rfl (by walk_at "vv")) se_int))))
      ss_nil) ss_nil)
      (ss_cons (ss_if (st_cmp (opEq hd.gK hr.units) (se_ix hd.gK (se_var (i := 0) rfl (by walk_at "vv")) se_int) (se_str [102, 117, 110])) (ss_cons (ss_set nd5 rfl (by walk_at "lo") (se_call Fs.f6 hd.gK hr (takes_of rfl rfl rfl rfl) (by walk_at "gl") (sa_cons (se_bin (opAdd hd.gK) (se_var (i := 1) rfl (by walk_at "vv")) (se_var (i := 2) rfl (by walk_at "vv"))) sa_nil)))
      (ss_cons (ss_ret (se_tup (sa_cons (se_str [102, 117, 110]) (sa_cons (se_var (i := 3) rfl (by walk_at "vv")) (sa_cons (se_call Fs.f5 hd.gK hr (takes_of rfl rfl rfl rfl) (by walk_at "gl") (sa_cons (se_ix hd.gK (se_var (i := 0) rfl (by walk_at "vv")) se_int) (sa_cons (se_bin (opAdd hd.gK) (se_var (i := 1) rfl (by walk_at "vv")) (se_tup (sa_cons (se_var (i := 3) rfl (by walk_at "vv")) sa_nil))) (sa_cons (se_var (i := 2) rfl (by walk_at "vv")) sa_nil)))) sa_nil)))))
      ss_nil)) ss_nil)
      (ss_cons (ss_ret (se_tup (sa_cons (se_str [97, 116]) (sa_cons (se_call Fs.f5 hd.gK hr (takes_of rfl rfl rfl rfl) (by walk_at "gl") (sa_cons (se_ix hd.gK (se_var (i := 0) rfl (by walk_at "vv")) se_int) (sa_cons (se_var (i := 1) rfl (by walk_at "vv")) (sa_cons (se_var (i := 2) rfl (by walk_at "vv")) sa_nil)))) (sa_cons (se_call Fs.f5 hd.gK hr (takes_of rfl rfl rfl rfl) (by walk_at "gl") (sa_cons (se_ix hd.gK (se_var (i := 0) rfl (by walk_at "vv")) se_int) (sa_cons (se_var (i := 1) rfl (by walk_at "vv")) (sa_cons (se_var (i := 2) rfl (by walk_at "vv")) sa_nil)))) sa_nil)))))
      ss_nil))))
theorem nd6 : (["taken", "turn", "sign", "name"] : List Str).Nodup := by decide +kernel
theorem d6 (hd : Hd K mg base g C_PlaceError cd tb) (Fs : Fs P w K mg base g c l c2 k) {f : Addr} {A : Around} {outer : List Env} {s : Shared} {H : Hp} {E : XK} (hr : Room k (A.deeper (envOfC "fresh_name" (defScope (top 12)) s.heap.objs.size f (.ref (cd 6))))) :
    SSs (cxOf (L2.CX P w) P w K mg base ["taken", "turn", "sign", "name"] "fresh_name" (defScope (top 12)) f (.ref (cd 6)) A outer s H E) g (fun cls d _ H => E cls d H) (defBody (top 12)) (b6 c l c2) :=
    (ss_cons (ss_set nd6 rfl (by walk_at "lo") se_int)
      (ss_cons (ss_while 100000 (passes_of rfl) (st_tru hd.gK se_bl) (ss_cons (ss_for (passes_of rfl) rfl (si_any hd.gK (se_str [97, 98, 99, 100, 101, 102, 103, 104, 105, 106, 107, 108, 109, 110, 111, 112, 113, 114, 115, 116, 117, 118, 119, 120, 121, 122])) (sg_name (i := 2) nd6 rfl (by walk_at "lo")) (ss_cons (ss_set nd6 rfl (by walk_at "lo") (se_bin (opAdd hd.gK) (se_var (i := 2) rfl (by walk_at "vv")) (se_if (st_cmp (opGt) (se_var (i := 1) rfl (by walk_at "vv")) se_int) (se_joined1 (se_fmt (se_var (i := 1) rfl (by walk_at "vv")))) (se_str []))))
      (ss_cons (ss_if (st_cmp (opNotIn hd.gK) (se_var (i := 3) rfl (by walk_at "vv")) (se_var (i := 0) rfl (by walk_at "vv"))) (ss_cons (ss_ret (se_var (i := 3) rfl (by walk_at "vv")))
      ss_nil) ss_nil)
      ss_nil)))
      (ss_cons (ss_aug nd6 rfl (by walk_at "lo") se_int opIadd)
      ss_nil)))
      ss_nil))
theorem nd7 : (["one", "other"] : List Str).Nodup := by decide +kernel
theorem d7 (hd : Hd K mg base g C_PlaceError cd tb) (Fs : Fs P w K mg base g c l c2 k) {f : Addr} {A : Around} {outer : List Env} {s : Shared} {H : Hp} {E : XK} (hr : Room k (A.deeper (envOfC "same_but_names" (defScope (top 13)) s.heap.objs.size f (.ref (cd 7))))) :
    SSs (cxOf (L2.CX P w) P w K mg base ["one", "other"] "same_but_names" (defScope (top 13)) f (.ref (cd 7)) A outer s H E) g (fun cls d _ H => E cls d H) (defBody (top 13)) (b7 c l c2) :=
    (ss_cons (ss_ret (se_cmp (opEq hd.gK hr.units) (se_call Fs.f1d1 hd.gK hr (takes_of rfl rfl rfl rfl) (by walk_at "gl") (sa_cons (se_var (i := 0) rfl (by walk_at "vv")) sa_nil)) (se_call Fs.f1d1 hd.gK hr (takes_of rfl rfl rfl rfl) (by walk_at "gl") (sa_cons (se_var (i := 1) rfl (by walk_at "vv")) sa_nil))))
      ss_nil)
theorem nd8 : (["term"] : List Str).Nodup := by decide +kernel
theorem d8 (hd : Hd K mg base g C_PlaceError cd tb) (Fs : Fs P w K mg base g c l c2 k) {f : Addr} {A : Around} {outer : List Env} {s : Shared} {H : Hp} {E : XK} (hr : Room k (A.deeper (envOfC "plain_names" (defScope (top 14)) s.heap.objs.size f (.ref (cd 8))))) :
    SSs (cxOf (L2.CX P w) P w K mg base ["term"] "plain_names" (defScope (top 14)) f (.ref (cd 8)) A outer s H E) g (fun cls d _ H => E cls d H) (defBody (top 14)) (b8 c l c2) :=
    (ss_cons (ss_ret (se_call Fs.f3 hd.gK hr (takes_of rfl rfl rfl rfl) (by walk_at "gl") (sa_cons (se_call Fs.f1d1 hd.gK hr (takes_of rfl rfl rfl rfl) (by walk_at "gl") (sa_cons (se_var (i := 0) rfl (by walk_at "vv")) sa_nil)) sa_nil)))
      ss_nil)
theorem nd9 : (["term", "by", "out"] : List Str).Nodup := by decide +kernel
theorem d9 (hd : Hd K mg base g C_PlaceError cd tb) (Fs : Fs P w K mg base g c l c2 k) {f : Addr} {A : Around} {outer : List Env} {s : Shared} {H : Hp} {E : XK} (hr : Room k (A.deeper (envOfC "moved" (defScope (top 15)) s.heap.objs.size f (.ref (cd 9))))) :
    SSs (cxOf (L2.CX P w) P w K mg base ["term", "by", "out"] "moved" (defScope (top 15)) f (.ref (cd 9)) A outer s H E) g (fun cls d _ H => E cls d H) (defBody (top 15)) (b9 c l c2) :=
    (ss_cons (ss_if (st_tru hd.gK (se_is2 "str" "int" hd.gK (by decide) (by decide) (by walk_at "gl") hd.m_isinstance (by walk_at "gl") hd.m_str (by rfl) (by decide) (by walk_at "gl") hd.m_int (by rfl) (by decide) (se_var (i := 0) rfl (by walk_at "vv")))) (ss_cons (ss_ret (se_var (i := 0) rfl (by walk_at "vv")))
      ss_nil) ss_nil)
      (ss_cons (ss_if (st_cmp (opEq hd.gK hr.units) (se_ix hd.gK (se_var (i := 0) rfl (by walk_at "vv")) se_int) (se_str [112, 108, 97, 99, 101])) (ss_cons (ss_if (st_w (sw_and (st_cmp (opGe) (se_ix hd.gK (se_var (i := 0) rfl (by walk_at "vv")) se_int) (se_var (i := 2) rfl (by walk_at "vv"))) (sw_and1 (st_cmp (opLt) (se_bin (opAdd hd.gK) (se_ix hd.gK (se_var (i := 0) rfl (by walk_at "vv")) se_int) (se_var (i := 1) rfl (by walk_at "vv"))) se_int)))) (ss_cons (ss_raise rfl (takes_of rfl rfl rfl rfl) PySem.F.excBase_ValueError hd.x_PlaceError.cv hd.x_PlaceError.q hd.x_PlaceError.gC hd.x_PlaceError.kC (raises_own hd.x_PlaceError.eC hd.x_PlaceError.tC) (by walk_at "gl"))
      ss_nil) ss_nil)
      (ss_cons (ss_ret (se_if (st_cmp (opGe) (se_ix hd.gK (se_var (i := 0) rfl (by walk_at "vv")) se_int) (se_var (i := 2) rfl (by walk_at "vv"))) (se_tup (sa_cons (se_str [112, 108, 97, 99, 101]) (sa_cons (se_bin (opAdd hd.gK) (se_ix hd.gK (se_var (i := 0) rfl (by walk_at "vv")) se_int) (se_var (i := 1) rfl (by walk_at "vv"))) sa_nil))) (se_var (i := 0) rfl (by walk_at "vv"))))
      ss_nil)) ss_nil)
      (ss_cons (ss_if (st_cmp (opEq hd.gK hr.units) (se_ix hd.gK (se_var (i := 0) rfl (by walk_at "vv")) se_int) (se_str [102, 117, 110])) (ss_cons (ss_ret (se_tup (sa_cons (se_str [102, 117, 110]) (sa_cons (se_call Fs.f9 hd.gK hr (takes_of rfl rfl rfl rfl) (by walk_at "gl") (sa_cons (se_ix hd.gK (se_var (i := 0) rfl (by walk_at "vv")) se_int) (sa_cons (se_var (i := 1) rfl (by walk_at "vv")) (sa_cons (se_bin (opAdd hd.gK) (se_var (i := 2) rfl (by walk_at "vv")) se_int) sa_nil)))) sa_nil))))
      ss_nil) ss_nil)
      (ss_cons (ss_ret (se_tup (sa_cons (se_str [97, 116]) (sa_cons (se_call Fs.f9 hd.gK hr (takes_of rfl rfl rfl rfl) (by walk_at "gl") (sa_cons (se_ix hd.gK (se_var (i := 0) rfl (by walk_at "vv")) se_int) (sa_cons (se_var (i := 1) rfl (by walk_at "vv")) (sa_cons (se_var (i := 2) rfl (by walk_at "vv")) sa_nil)))) (sa_cons (se_call Fs.f9 hd.gK hr (takes_of rfl rfl rfl rfl) (by walk_at "gl") (sa_cons (se_ix hd.gK (se_var (i := 0) rfl (by walk_at "vv")) se_int) (sa_cons (se_var (i := 1) rfl (by walk_at "vv")) (sa_cons (se_var (i := 2) rfl (by walk_at "vv")) sa_nil)))) sa_nil)))))
      ss_nil))))
theorem nd10 : (["term", "out", "other"] : List Str).Nodup := by decide +kernel
theorem d10 (hd : Hd K mg base g C_PlaceError cd tb) (Fs : Fs P w K mg base g c l c2 k) {f : Addr} {A : Around} {outer : List Env} {s : Shared} {H : Hp} {E : XK} (hr : Room k (A.deeper (envOfC "put_in" (defScope (top 16)) s.heap.objs.size f (.ref (cd 10))))) :
    SSs (cxOf (L2.CX P w) P w K mg base ["term", "out", "other"] "put_in" (defScope (top 16)) f (.ref (cd 10)) A outer s H E) g (fun cls d _ H => E cls d H) (defBody (top 16)) (b10 c l c2) :=
    (ss_cons (ss_if (st_tru hd.gK (se_is2 "str" "int" hd.gK (by decide) (by decide) (by walk_at "gl") hd.m_isinstance (by walk_at "gl") hd.m_str (by rfl) (by decide) (by walk_at "gl") hd.m_int (by rfl) (by decide) (se_var (i := 0) rfl (by walk_at "vv")))) (ss_cons (ss_ret (se_var (i := 0) rfl (by walk_at "vv")))
      ss_nil) ss_nil)
      (ss_cons (ss_if (st_cmp (opEq hd.gK hr.units) (se_ix hd.gK (se_var (i := 0) rfl (by walk_at "vv")) se_int) (se_str [112, 108, 97, 99, 101])) (ss_cons (ss_if (st_cmp (opEq hd.gK hr.units) (se_ix hd.gK (se_var (i := 0) rfl (by walk_at "vv")) se_int) (se_var (i := 1) rfl (by walk_at "vv"))) (ss_cons (ss_ret (se_call Fs.f9d1 hd.gK hr (takes_of rfl rfl rfl rfl) (by walk_at "gl") (sa_cons (se_var (i := 2) rfl (by walk_at "vv")) (sa_cons (se_var (i := 1) rfl (by walk_at "vv")) sa_nil))))
      ss_nil) ss_nil)
      (ss_cons (ss_ret (se_if (st_cmp (opGt) (se_ix hd.gK (se_var (i := 0) rfl (by walk_at "vv")) se_int) (se_var (i := 1) rfl (by walk_at "vv"))) (se_tup (sa_cons (se_str [112, 108, 97, 99, 101]) (sa_cons (se_bin (opSub) (se_ix hd.gK (se_var (i := 0) rfl (by walk_at "vv")) se_int) se_int) sa_nil))) (se_var (i := 0) rfl (by walk_at "vv"))))
      ss_nil)) ss_nil)
      (ss_cons (ss_if (st_cmp (opEq hd.gK hr.units) (se_ix hd.gK (se_var (i := 0) rfl (by walk_at "vv")) se_int) (se_str [102, 117, 110])) (ss_cons (ss_ret (se_tup (sa_cons (se_str [102, 117, 110]) (sa_cons (se_call Fs.f10 hd.gK hr (takes_of rfl rfl rfl rfl) (by walk_at "gl") (sa_cons (se_ix hd.gK (se_var (i := 0) rfl (by walk_at "vv")) se_int) (sa_cons (se_bin (opAdd hd.gK) (se_var (i := 1) rfl (by walk_at "vv")) se_int) (sa_cons (se_var (i := 2) rfl (by walk_at "vv")) sa_nil)))) sa_nil))))
      ss_nil) ss_nil)
      (ss_cons (ss_ret (se_tup (sa_cons (se_str [97, 116]) (sa_cons (se_call Fs.f10 hd.gK hr (takes_of rfl rfl rfl rfl) (by walk_at "gl") (sa_cons (se_ix hd.gK (se_var (i := 0) rfl (by walk_at "vv")) se_int) (sa_cons (se_var (i := 1) rfl (by walk_at "vv")) (sa_cons (se_var (i := 2) rfl (by walk_at "vv")) sa_nil)))) (sa_cons (se_call Fs.f10 hd.gK hr (takes_of rfl rfl rfl rfl) (by walk_at "gl") (sa_cons (se_ix hd.gK (se_var (i := 0) rfl (by walk_at "vv")) se_int) (sa_cons (se_var (i := 1) rfl (by walk_at "vv")) (sa_cons (se_var (i := 2) rfl (by walk_at "vv")) sa_nil)))) sa_nil)))))
      ss_nil))))
theorem nd11 : (["term"] : List Str).Nodup := by decide +kernel
theorem d11 (hd : Hd K mg base g C_PlaceError cd tb) (Fs : Fs P w K mg base g c l c2 k) {f : Addr} {A : Around} {outer : List Env} {s : Shared} {H : Hp} {E : XK} (hr : Room k (A.deeper (envOfC "step_here" (defScope (top 17)) s.heap.objs.size f (.ref (cd 11))))) :
    SSs (cxOf (L2.CX P w) P w K mg base ["term"] "step_here" (defScope (top 17)) f (.ref (cd 11)) A outer s H E) g (fun cls d _ H => E cls d H) (defBody (top 17)) (b11 c l c2) :=
    (ss_cons (ss_if (st_w (sw_or (st_not (st_tru hd.gK (se_is1 "tuple" hd.gK (by decide) (by walk_at "gl") hd.m_isinstance (by walk_at "gl") hd.m_tuple (by rfl) (by decide) (se_var (i := 0) rfl (by walk_at "vv"))))) (sw_or (st_cmp (opNe hd.gK hr.units) (se_ix hd.gK (se_var (i := 0) rfl (by walk_at "vv")) se_int) (se_str [97, 116])) (sw_or (st_not (st_tru hd.gK (se_is1 "tuple" hd.gK (by decide) (by walk_at "gl") hd.m_isinstance (by walk_at "gl") hd.m_tuple (by rfl) (by decide) (se_ix hd.gK (se_var (i := 0) rfl (by walk_at "vv")) se_int)))) (sw_or1 (st_cmp (opNe hd.gK hr.units) (se_ix hd.gK (se_ix hd.gK (se_var (i := 0) rfl (by walk_at "vv")) se_int) se_int) (se_str [102, 117, 110]))))))) (ss_cons (ss_raise rfl (takes_of rfl rfl rfl rfl) PySem.F.excBase_ValueError hd.x_PlaceError.cv hd.x_PlaceError.q hd.x_PlaceError.gC hd.x_PlaceError.kC (raises_own hd.x_PlaceError.eC hd.x_PlaceError.tC) (by walk_at "gl"))
      ss_nil) ss_nil)
      (ss_cons (ss_ret (se_call Fs.f10 hd.gK hr (takes_of rfl rfl rfl rfl) (by walk_at "gl") (sa_cons (se_ix hd.gK (se_ix hd.gK (se_var (i := 0) rfl (by walk_at "vv")) se_int) se_int) (sa_cons se_int (sa_cons (se_ix hd.gK (se_var (i := 0) rfl (by walk_at "vv")) se_int) sa_nil)))))
      ss_nil))
theorem nd12 : (["term", "found"] : List Str).Nodup := by decide +kernel
theorem d12 (hd : Hd K mg base g C_PlaceError cd tb) (Fs : Fs P w K mg base g c l c2 k) {f : Addr} {A : Around} {outer : List Env} {s : Shared} {H : Hp} {E : XK} (hr : Room k (A.deeper (envOfC "told_short" (defScope (top 18)) s.heap.objs.size f (.ref (cd 12))))) :
    SSs (cxOf (L2.CX P w) P w K mg base ["term", "found"] "told_short" (defScope (top 18)) f (.ref (cd 12)) A outer s H E) g (fun cls d _ H => E cls d H) (defBody (top 18)) (b12 c l c2) :=
    (ss_cons (ss_set nd12 rfl (by walk_at "lo") (se_call Fs.f13 hd.gK hr (takes_of rfl rfl rfl rfl) (by walk_at "gl") (sa_cons (se_var (i := 0) rfl (by walk_at "vv")) sa_nil)))
      (ss_cons (ss_ret (se_if (st_w (sw_and (st_tru hd.gK (se_is1 "tuple" hd.gK (by decide) (by walk_at "gl") hd.m_isinstance (by walk_at "gl") hd.m_tuple (by rfl) (by decide) (se_var (i := 0) rfl (by walk_at "vv")))) (sw_and1 (st_cmp (opEq hd.gK hr.units) (se_ix hd.gK (se_var (i := 0) rfl (by walk_at "vv")) se_int) (se_str [97, 116]))))) (se_sl hd.gK (se_var (i := 1) rfl (by walk_at "vv")) (so_so se_int) (so_so se_neg)) (se_var (i := 1) rfl (by walk_at "vv"))))
      ss_nil))
theorem nd13 : (["term"] : List Str).Nodup := by decide +kernel
theorem d13 (hd : Hd K mg base g C_PlaceError cd tb) (Fs : Fs P w K mg base g c l c2 k) {f : Addr} {A : Around} {outer : List Env} {s : Shared} {H : Hp} {E : XK} (hr : Room k (A.deeper (envOfC "told_within" (defScope (top 19)) s.heap.objs.size f (.ref (cd 13))))) :
    SSs (cxOf (L2.CX P w) P w K mg base ["term"] "told_within" (defScope (top 19)) f (.ref (cd 13)) A outer s H E) g (fun cls d _ H => E cls d H) (defBody (top 19)) (b13 c l c2) :=
    (ss_cons (ss_if (st_tru hd.gK (se_is2 "str" "int" hd.gK (by decide) (by decide) (by walk_at "gl") hd.m_isinstance (by walk_at "gl") hd.m_str (by rfl) (by decide) (by walk_at "gl") hd.m_int (by rfl) (by decide) (se_var (i := 0) rfl (by walk_at "vv")))) (ss_cons (ss_ret (se_joined1 (se_fmt (se_var (i := 0) rfl (by walk_at "vv")))))
      ss_nil) ss_nil)
      (ss_cons (ss_if (st_cmp (opEq hd.gK hr.units) (se_ix hd.gK (se_var (i := 0) rfl (by walk_at "vv")) se_int) (se_str [112, 108, 97, 99, 101])) (ss_cons (ss_ret (se_joined (.cons (se_str [35]) (.cons (se_fmt (se_ix hd.gK (se_var (i := 0) rfl (by walk_at "vv")) se_int)) .nil))))
      ss_nil) ss_nil)
      (ss_cons (ss_if (st_cmp (opEq hd.gK hr.units) (se_ix hd.gK (se_var (i := 0) rfl (by walk_at "vv")) se_int) (se_str [102, 117, 110])) (ss_cons (ss_ret (se_bin (opAdd hd.gK) (se_str [33]) (se_call Fs.f13 hd.gK hr (takes_of rfl rfl rfl rfl) (by walk_at "gl") (sa_cons (se_ix hd.gK (se_var (i := 0) rfl (by walk_at "vv")) se_int) sa_nil))))
      ss_nil) ss_nil)
      (ss_cons (ss_ret (se_bin (opAdd hd.gK) (se_bin (opAdd hd.gK) (se_bin (opAdd hd.gK) (se_bin (opAdd hd.gK) (se_str [40]) (se_call Fs.f13 hd.gK hr (takes_of rfl rfl rfl rfl) (by walk_at "gl") (sa_cons (se_ix hd.gK (se_var (i := 0) rfl (by walk_at "vv")) se_int) sa_nil))) (se_str [32])) (se_call Fs.f13 hd.gK hr (takes_of rfl rfl rfl rfl) (by walk_at "gl") (sa_cons (se_ix hd.gK (se_var (i := 0) rfl (by walk_at "vv")) se_int) sa_nil))) (se_str [41])))
      ss_nil))))
theorem nd14 : (["term", "out"] : List Str).Nodup := by decide +kernel
theorem d14 (hd : Hd K mg base g C_PlaceError cd tb) (Fs : Fs P w K mg base g c l c2 k) {f : Addr} {A : Around} {outer : List Env} {s : Shared} {H : Hp} {E : XK} (hr : Room k (A.deeper (envOfC "uses_of" (defScope (top 20)) s.heap.objs.size f (.ref (cd 14))))) :
    SSs (cxOf (L2.CX P w) P w K mg base ["term", "out"] "uses_of" (defScope (top 20)) f (.ref (cd 14)) A outer s H E) g (fun cls d _ H => E cls d H) (defBody (top 20)) (b14 c l c2) :=
    (ss_cons (ss_if (st_tru hd.gK (se_is2 "str" "int" hd.gK (by decide) (by decide) (by walk_at "gl") hd.m_isinstance (by walk_at "gl") hd.m_str (by rfl) (by decide) (by walk_at "gl") hd.m_int (by rfl) (by decide) (se_var (i := 0) rfl (by walk_at "vv")))) (ss_cons (ss_ret se_int)
      ss_nil) ss_nil)
      (ss_cons (ss_if (st_cmp (opEq hd.gK hr.units) (se_ix hd.gK (se_var (i := 0) rfl (by walk_at "vv")) se_int) (se_str [112, 108, 97, 99, 101])) (ss_cons (ss_ret (se_if (st_cmp (opEq hd.gK hr.units) (se_ix hd.gK (se_var (i := 0) rfl (by walk_at "vv")) se_int) (se_var (i := 1) rfl (by walk_at "vv"))) se_int se_int))
      ss_nil) ss_nil)
      (ss_cons (ss_if (st_cmp (opEq hd.gK hr.units) (se_ix hd.gK (se_var (i := 0) rfl (by walk_at "vv")) se_int) (se_str [102, 117, 110])) (ss_cons (ss_ret (se_call Fs.f14 hd.gK hr (takes_of rfl rfl rfl rfl) (by walk_at "gl") (sa_cons (se_ix hd.gK (se_var (i := 0) rfl (by walk_at "vv")) se_int) (sa_cons (se_bin (opAdd hd.gK) (se_var (i := 1) rfl (by walk_at "vv")) se_int) sa_nil))))
      ss_nil) ss_nil)
      (ss_cons (ss_ret (se_bin (opAdd hd.gK) (se_call Fs.f14 hd.gK hr (takes_of rfl rfl rfl rfl) (by walk_at "gl") (sa_cons (se_ix hd.gK (se_var (i := 0) rfl (by walk_at "vv")) se_int) (sa_cons (se_var (i := 1) rfl (by walk_at "vv")) sa_nil))) (se_call Fs.f14 hd.gK hr (takes_of rfl rfl rfl rfl) (by walk_at "gl") (sa_cons (se_ix hd.gK (se_var (i := 0) rfl (by walk_at "vv")) se_int) (sa_cons (se_var (i := 1) rfl (by walk_at "vv")) sa_nil)))))
      ss_nil))))
theorem nd15 : (["term"] : List Str).Nodup := by decide +kernel
theorem d15 (hd : Hd K mg base g C_PlaceError cd tb) (Fs : Fs P w K mg base g c l c2 k) {f : Addr} {A : Around} {outer : List Env} {s : Shared} {H : Hp} {E : XK} (hr : Room k (A.deeper (envOfC "bits_of" (defScope (top 21)) s.heap.objs.size f (.ref (cd 15))))) :
    SSs (cxOf (L2.CX P w) P w K mg base ["term"] "bits_of" (defScope (top 21)) f (.ref (cd 15)) A outer s H E) g (fun cls d _ H => E cls d H) (defBody (top 21)) (b15 c l c2) :=
    (ss_cons (ss_if (st_tru hd.gK (se_is2 "str" "int" hd.gK (by decide) (by decide) (by walk_at "gl") hd.m_isinstance (by walk_at "gl") hd.m_str (by rfl) (by decide) (by walk_at "gl") hd.m_int (by rfl) (by decide) (se_var (i := 0) rfl (by walk_at "vv")))) (ss_cons (ss_raise rfl (takes_of rfl rfl rfl rfl) PySem.F.excBase_ValueError hd.x_PlaceError.cv hd.x_PlaceError.q hd.x_PlaceError.gC hd.x_PlaceError.kC (raises_own hd.x_PlaceError.eC hd.x_PlaceError.tC) (by walk_at "gl"))
      ss_nil) ss_nil)
      (ss_cons (ss_if (st_cmp (opEq hd.gK hr.units) (se_ix hd.gK (se_var (i := 0) rfl (by walk_at "vv")) se_int) (se_str [112, 108, 97, 99, 101])) (ss_cons (ss_ret (se_bin (opAdd hd.gK) (se_bin (opMul) (se_str [49]) (se_bin (opAdd hd.gK) (se_ix hd.gK (se_var (i := 0) rfl (by walk_at "vv")) se_int) se_int)) (se_str [48])))
      ss_nil) ss_nil)
      (ss_cons (ss_if (st_cmp (opEq hd.gK hr.units) (se_ix hd.gK (se_var (i := 0) rfl (by walk_at "vv")) se_int) (se_str [102, 117, 110])) (ss_cons (ss_ret (se_bin (opAdd hd.gK) (se_str [48, 48]) (se_call Fs.f15 hd.gK hr (takes_of rfl rfl rfl rfl) (by walk_at "gl") (sa_cons (se_ix hd.gK (se_var (i := 0) rfl (by walk_at "vv")) se_int) sa_nil))))
      ss_nil) ss_nil)
      (ss_cons (ss_ret (se_bin (opAdd hd.gK) (se_bin (opAdd hd.gK) (se_str [48, 49]) (se_call Fs.f15 hd.gK hr (takes_of rfl rfl rfl rfl) (by walk_at "gl") (sa_cons (se_ix hd.gK (se_var (i := 0) rfl (by walk_at "vv")) se_int) sa_nil))) (se_call Fs.f15 hd.gK hr (takes_of rfl rfl rfl rfl) (by walk_at "gl") (sa_cons (se_ix hd.gK (se_var (i := 0) rfl (by walk_at "vv")) se_int) sa_nil))))
      ss_nil))))
theorem nd16 : (["text", "term", "place"] : List Str).Nodup := by decide +kernel
theorem d16 (hd : Hd K mg base g C_PlaceError cd tb) (Fs : Fs P w K mg base g c l c2 k) {f : Addr} {A : Around} {outer : List Env} {s : Shared} {H : Hp} {E : XK} (hr : Room k (A.deeper (envOfC "read_bits" (defScope (top 22)) s.heap.objs.size f (.ref (cd 16))))) :
    SSs (cxOf (L2.CX P w) P w K mg base ["text", "term", "place"] "read_bits" (defScope (top 22)) f (.ref (cd 16)) A outer s H E) g (fun cls d _ H => E cls d H) (defBody (top 22)) (b16 c l c2) :=
    (ss_cons (ss_asg (se_call Fs.f17 hd.gK hr (takes_of rfl rfl rfl rfl) (by walk_at "gl") (sa_cons (se_var (i := 0) rfl (by walk_at "vv")) (sa_cons se_int sa_nil))) (sg_tup hd.gK rfl (sg_cons (sg_name (i := 1) nd16 rfl (by walk_at "lo")) (sg_cons (sg_name (i := 2) nd16 rfl (by walk_at "lo")) sg_nil))))
      (ss_cons (ss_if (st_cmp (opNe hd.gK hr.units) (se_var (i := 2) rfl (by walk_at "vv")) (se_callB (callLen hd.gK) (by walk_at "gl") hd.m_len (by rfl) (sa_cons (se_var (i := 0) rfl (by walk_at "vv")) sa_nil))) (ss_cons (ss_raise rfl (takes_of rfl rfl rfl rfl) PySem.F.excBase_ValueError hd.x_PlaceError.cv hd.x_PlaceError.q hd.x_PlaceError.gC hd.x_PlaceError.kC (raises_own hd.x_PlaceError.eC hd.x_PlaceError.tC) (by walk_at "gl"))
      ss_nil) ss_nil)
      (ss_cons (ss_expr (se_call Fs.f2d1 hd.gK hr (takes_of rfl rfl rfl rfl) (by walk_at "gl") (sa_cons (se_var (i := 1) rfl (by walk_at "vv")) sa_nil)))
      (ss_cons (ss_ret (se_var (i := 1) rfl (by walk_at "vv")))
      ss_nil))))
theorem nd17 : (["text", "place", "many", "term", "behind", "one", "other"] : List Str).Nodup := by decide +kernel
theorem d17 (hd : Hd K mg base g C_PlaceError cd tb) (Fs : Fs P w K mg base g c l c2 k) {f : Addr} {A : Around} {outer : List Env} {s : Shared} {H : Hp} {E : XK} (hr : Room k (A.deeper (envOfC "read_bits_from" (defScope (top 23)) s.heap.objs.size f (.ref (cd 17))))) :
    SSs (cxOf (L2.CX P w) P w K mg base ["text", "place", "many", "term", "behind", "one", "other"] "read_bits_from" (defScope (top 23)) f (.ref (cd 17)) A outer s H E) g (fun cls d _ H => E cls d H) (defBody (top 23)) (b17 c l c2) :=
    (ss_cons (ss_if (st_tru hd.gK (se_anyS hd.gK hr (by walk_at "gl") hd.m_any (by rfl) hd.tb17 hd.hT17 hd.hu17 rfl (by walk_at "genS") (se_var (i := 0) rfl (by walk_at "vv")) (fun items h1 => elq_notinC [48, 49] rfl rfl h1) (fun _ => rfl))) (ss_cons (ss_raise rfl (takes_of rfl rfl rfl rfl) PySem.F.excBase_ValueError hd.x_PlaceError.cv hd.x_PlaceError.q hd.x_PlaceError.gC hd.x_PlaceError.kC (raises_own hd.x_PlaceError.eC hd.x_PlaceError.tC) (by walk_at "gl"))
      ss_nil) ss_nil)
      (ss_cons (ss_if (st_cmp (opEq hd.gK hr.units) (se_sl hd.gK (se_var (i := 0) rfl (by walk_at "vv")) (so_so (se_var (i := 1) rfl (by walk_at "vv"))) (so_so (se_bin (opAdd hd.gK) (se_var (i := 1) rfl (by walk_at "vv")) se_int))) (se_str [48, 48])) (ss_cons (ss_asg (se_call Fs.f17 hd.gK hr (takes_of rfl rfl rfl rfl) (by walk_at "gl") (sa_cons (se_var (i := 0) rfl (by walk_at "vv")) (sa_cons (se_bin (opAdd hd.gK) (se_var (i := 1) rfl (by walk_at "vv")) se_int) sa_nil))) (sg_tup hd.gK rfl (sg_cons (sg_name (i := 3) nd17 rfl (by walk_at "lo")) (sg_cons (sg_name (i := 4) nd17 rfl (by walk_at "lo")) sg_nil))))
      (ss_cons (ss_ret (se_tup (sa_cons (se_tup (sa_cons (se_str [102, 117, 110]) (sa_cons (se_var (i := 3) rfl (by walk_at "vv")) sa_nil))) (sa_cons (se_var (i := 4) rfl (by walk_at "vv")) sa_nil))))
      ss_nil)) ss_nil)
      (ss_cons (ss_if (st_cmp (opEq hd.gK hr.units) (se_sl hd.gK (se_var (i := 0) rfl (by walk_at "vv")) (so_so (se_var (i := 1) rfl (by walk_at "vv"))) (so_so (se_bin (opAdd hd.gK) (se_var (i := 1) rfl (by walk_at "vv")) se_int))) (se_str [48, 49])) (ss_cons (ss_asg (se_call Fs.f17 hd.gK hr (takes_of rfl rfl rfl rfl) (by walk_at "gl") (sa_cons (se_var (i := 0) rfl (by walk_at "vv")) (sa_cons (se_bin (opAdd hd.gK) (se_var (i := 1) rfl (by walk_at "vv")) se_int) sa_nil))) (sg_tup hd.gK rfl (sg_cons (sg_name (i := 5) nd17 rfl (by walk_at "lo")) (sg_cons (sg_name (i := 4) nd17 rfl (by walk_at "lo")) sg_nil))))
      (ss_cons (ss_asg (se_call Fs.f17 hd.gK hr (takes_of rfl rfl rfl rfl) (by walk_at "gl") (sa_cons (se_var (i := 0) rfl (by walk_at "vv")) (sa_cons (se_var (i := 4) rfl (by walk_at "vv")) sa_nil))) (sg_tup hd.gK rfl (sg_cons (sg_name (i := 6) nd17 rfl (by walk_at "lo")) (sg_cons (sg_name (i := 4) nd17 rfl (by walk_at "lo")) sg_nil))))
      (ss_cons (ss_ret (se_tup (sa_cons (se_tup (sa_cons (se_str [97, 116]) (sa_cons (se_var (i := 5) rfl (by walk_at "vv")) (sa_cons (se_var (i := 6) rfl (by walk_at "vv")) sa_nil)))) (sa_cons (se_var (i := 4) rfl (by walk_at "vv")) sa_nil))))
      ss_nil))) ss_nil)
      (ss_cons (ss_set nd17 rfl (by walk_at "lo") se_int)
      (ss_cons (ss_while 100000 (passes_of rfl) (st_cmp (opEq hd.gK hr.units) (se_sl hd.gK (se_var (i := 0) rfl (by walk_at "vv")) (so_so (se_bin (opAdd hd.gK) (se_var (i := 1) rfl (by walk_at "vv")) (se_var (i := 2) rfl (by walk_at "vv")))) (so_so (se_bin (opAdd hd.gK) (se_bin (opAdd hd.gK) (se_var (i := 1) rfl (by walk_at "vv")) (se_var (i := 2) rfl (by walk_at "vv"))) se_int))) (se_str [49])) (ss_cons (ss_aug nd17 rfl (by walk_at "lo") se_int opIadd)
      ss_nil))
      (ss_cons (ss_if (st_w (sw_or (st_cmp (opEq hd.gK hr.units) (se_var (i := 2) rfl (by walk_at "vv")) se_int) (sw_or1 (st_cmp (opNe hd.gK hr.units) (se_sl hd.gK (se_var (i := 0) rfl (by walk_at "vv")) (so_so (se_bin (opAdd hd.gK) (se_var (i := 1) rfl (by walk_at "vv")) (se_var (i := 2) rfl (by walk_at "vv")))) (so_so (se_bin (opAdd hd.gK) (se_bin (opAdd hd.gK) (se_var (i := 1) rfl (by walk_at "vv")) (se_var (i := 2) rfl (by walk_at "vv"))) se_int))) (se_str [48]))))) (ss_cons (ss_raise rfl (takes_of rfl rfl rfl rfl) PySem.F.excBase_ValueError hd.x_PlaceError.cv hd.x_PlaceError.q hd.x_PlaceError.gC hd.x_PlaceError.kC (raises_own hd.x_PlaceError.eC hd.x_PlaceError.tC) (by walk_at "gl"))
      ss_nil) ss_nil)
      (ss_cons (ss_ret (se_tup (sa_cons (se_tup (sa_cons (se_str [112, 108, 97, 99, 101]) (sa_cons (se_bin (opSub) (se_var (i := 2) rfl (by walk_at "vv")) se_int) sa_nil))) (sa_cons (se_bin (opAdd hd.gK) (se_bin (opAdd hd.gK) (se_var (i := 1) rfl (by walk_at "vv")) (se_var (i := 2) rfl (by walk_at "vv"))) se_int) sa_nil))))
      ss_nil)))))))
theorem nd18 : (["term"] : List Str).Nodup := by decide +kernel
theorem d18 (hd : Hd K mg base g C_PlaceError cd tb) (Fs : Fs P w K mg base g c l c2 k) {f : Addr} {A : Around} {outer : List Env} {s : Shared} {H : Hp} {E : XK} (hr : Room k (A.deeper (envOfC "names_needed" (defScope (top 24)) s.heap.objs.size f (.ref (cd 18))))) :
    SSs (cxOf (L2.CX P w) P w K mg base ["term"] "names_needed" (defScope (top 24)) f (.ref (cd 18)) A outer s H E) g (fun cls d _ H => E cls d H) (defBody (top 24)) (b18 c l c2) :=
    (ss_cons (ss_if (st_tru hd.gK (se_is2 "str" "int" hd.gK (by decide) (by decide) (by walk_at "gl") hd.m_isinstance (by walk_at "gl") hd.m_str (by rfl) (by decide) (by walk_at "gl") hd.m_int (by rfl) (by decide) (se_var (i := 0) rfl (by walk_at "vv")))) (ss_cons (ss_ret se_int)
      ss_nil) ss_nil)
      (ss_cons (ss_if (st_cmp (opEq hd.gK hr.units) (se_ix hd.gK (se_var (i := 0) rfl (by walk_at "vv")) se_int) (se_str [102, 117, 110])) (ss_cons (ss_ret (se_bin (opAdd hd.gK) se_int (se_call Fs.f18 hd.gK hr (takes_of rfl rfl rfl rfl) (by walk_at "gl") (sa_cons (se_ix hd.gK (se_var (i := 0) rfl (by walk_at "vv")) se_int) sa_nil))))
      ss_nil) ss_nil)
      (ss_cons (ss_ret (se_callB (callMax2 rfl) (by walk_at "gl") hd.m_max (by rfl) (sa_cons (se_call Fs.f18 hd.gK hr (takes_of rfl rfl rfl rfl) (by walk_at "gl") (sa_cons (se_ix hd.gK (se_var (i := 0) rfl (by walk_at "vv")) se_int) sa_nil)) (sa_cons (se_call Fs.f18 hd.gK hr (takes_of rfl rfl rfl rfl) (by walk_at "gl") (sa_cons (se_ix hd.gK (se_var (i := 0) rfl (by walk_at "vv")) se_int) sa_nil)) sa_nil))))
      ss_nil)))
theorem nd19 : (["term", "names", "left", "one"] : List Str).Nodup := by decide +kernel
theorem d19 (hd : Hd K mg base g C_PlaceError cd tb) (Fs : Fs P w K mg base g c l c2 k) {f : Addr} {A : Around} {outer : List Env} {s : Shared} {H : Hp} {E : XK} (hr : Room k (A.deeper (envOfC "is_plain" (defScope (top 25)) s.heap.objs.size f (.ref (cd 19))))) :
    SSs (cxOf (L2.CX P w) P w K mg base ["term", "names", "left", "one"] "is_plain" (defScope (top 25)) f (.ref (cd 19)) A outer s H E) g (fun cls d _ H => E cls d H) (defBody (top 25)) (b19 c l c2) :=
    (ss_cons (ss_par rfl nd19 rfl rfl (by decide) rfl rfl (sa_cons (se_callTy (callLst hd.gK rfl) (by walk_at "gl") hd.m_list (by rfl) (sa_cons (se_call Fs.f0 hd.gK hr (takes_of rfl rfl rfl rfl) (by walk_at "gl") (sa_cons (se_var (i := 0) rfl (by walk_at "vv")) sa_nil)) sa_nil)) (sa_cons (se_lst (sa_cons (se_var (i := 0) rfl (by walk_at "vv")) sa_nil)) sa_nil)) rfl)
      (ss_cons (ss_while 100000 (passes_of rfl) (st_cmp (opNe hd.gK hr.units) (se_var (i := 2) rfl (by walk_at "vv")) (se_lst sa_nil)) (ss_cons (ss_set nd19 rfl (by walk_at "lo") (se_pop rfl rfl (se_var (i := 2) rfl (by walk_at "vv"))))
      (ss_cons (ss_if (st_tru hd.gK (se_is1 "tuple" hd.gK (by decide) (by walk_at "gl") hd.m_isinstance (by walk_at "gl") hd.m_tuple (by rfl) (by decide) (se_var (i := 3) rfl (by walk_at "vv")))) (ss_cons (ss_if (st_cmp (opEq hd.gK hr.units) (se_ix hd.gK (se_var (i := 3) rfl (by walk_at "vv")) se_int) (se_str [102, 117, 110])) (ss_cons (ss_if (st_cmp (opIn hd.gK) (se_ix hd.gK (se_var (i := 3) rfl (by walk_at "vv")) se_int) (se_var (i := 1) rfl (by walk_at "vv"))) (ss_cons (ss_ret se_bl)
      ss_nil) ss_nil)
      (ss_cons (ss_expr (se_append hd.gK (se_var (i := 1) rfl (by walk_at "vv")) (sa_cons (se_ix hd.gK (se_var (i := 3) rfl (by walk_at "vv")) se_int) sa_nil)))
      (ss_cons (ss_expr (se_append hd.gK (se_var (i := 2) rfl (by walk_at "vv")) (sa_cons (se_ix hd.gK (se_var (i := 3) rfl (by walk_at "vv")) se_int) sa_nil)))
      ss_nil))) (ss_cons (ss_aug nd19 rfl (by walk_at "lo") (se_lst (sa_cons (se_ix hd.gK (se_var (i := 3) rfl (by walk_at "vv")) se_int) (sa_cons (se_ix hd.gK (se_var (i := 3) rfl (by walk_at "vv")) se_int) sa_nil))) opIadd)
      ss_nil))
      ss_nil) ss_nil)
      ss_nil)))
      (ss_cons (ss_ret se_bl)
      ss_nil)))
theorem nd20 : (["cell"] : List Str).Nodup := by decide +kernel
theorem d20 (hd : Hd K mg base g C_PlaceError cd tb) (Fs : Fs P w K mg base g c l c2 k) {f : Addr} {A : Around} {outer : List Env} {s : Shared} {H : Hp} {E : XK} (hr : Room k (A.deeper (envOfC "_law_dice" (defScope (top 27)) s.heap.objs.size f (.ref (cd 20))))) :
    SSs (cxOf (L2.CX P w) P w K mg base ["cell"] "_law_dice" (defScope (top 27)) f (.ref (cd 20)) A outer s H E) g (fun cls d _ H => E cls d H) (defBody (top 27)) (b20 c l c2) :=
    (ss_cons (ss_if (st_chn (opLt) (opLt) (se_bin (opSub) se_int se_int) (se_var (i := 0) rfl (by walk_at "vv")) se_int) (ss_cons (ss_ret (se_lst (sa_cons (se_callB (callAbs) (by walk_at "gl") hd.m_abs (by rfl) (sa_cons (se_var (i := 0) rfl (by walk_at "vv")) sa_nil)) (sa_cons se_int (sa_cons se_int sa_nil)))))
      ss_nil) ss_nil)
      (ss_cons (ss_ret (se_lst (sa_cons (se_var (i := 0) rfl (by walk_at "vv")) (sa_cons (se_bin (opAdd hd.gK) se_int (se_bin (opMod) (se_callTy (callInt) (by walk_at "gl") hd.m_int (by rfl) (sa_cons (se_var (i := 0) rfl (by walk_at "vv")) sa_nil)) se_int)) (sa_cons (se_callTy (callInt) (by walk_at "gl") hd.m_int (by rfl) (sa_cons (se_cmp (opGe) (se_var (i := 0) rfl (by walk_at "vv")) (se_bin (opPow) se_int se_int)) sa_nil)) sa_nil)))))
      ss_nil))
theorem nd21 : (["dice", "many", "found"] : List Str).Nodup := by decide +kernel
theorem d21 (hd : Hd K mg base g C_PlaceError cd tb) (Fs : Fs P w K mg base g c l c2 k) {f : Addr} {A : Around} {outer : List Env} {s : Shared} {H : Hp} {E : XK} (hr : Room k (A.deeper (envOfC "_law_roll" (defScope (top 28)) s.heap.objs.size f (.ref (cd 21))))) :
    SSs (cxOf (L2.CX P w) P w K mg base ["dice", "many", "found"] "_law_roll" (defScope (top 28)) f (.ref (cd 21)) A outer s H E) g (fun cls d _ H => E cls d H) (defBody (top 28)) (b21 c l c2) :=
    (ss_cons (ss_if (st_w (sw_or (st_cmp (opEq hd.gK hr.units) (se_ix hd.gK (se_var (i := 0) rfl (by walk_at "vv")) se_int) se_int) (sw_or1 (st_w (sw_and (st_cmp (opEq hd.gK hr.units) (se_ix hd.gK (se_var (i := 0) rfl (by walk_at "vv")) se_int) se_int) (sw_and1 (st_cmp (opGt) (se_ix hd.gK (se_var (i := 0) rfl (by walk_at "vv")) se_int) se_int))))))) (ss_cons (ss_set nd21 rfl (by walk_at "lo") (se_bin (opMod) (se_callTy (callInt) (by walk_at "gl") hd.m_int (by rfl) (sa_cons (se_ix hd.gK (se_var (i := 0) rfl (by walk_at "vv")) se_int) sa_nil)) (se_var (i := 1) rfl (by walk_at "vv"))))
      (ss_cons (ss_asg (se_bin (opFdiv) (se_ix hd.gK (se_var (i := 0) rfl (by walk_at "vv")) se_int) (se_var (i := 1) rfl (by walk_at "vv"))) (sg_sub (W := WF) (hu_of hr) (se_var (i := 0) rfl (by walk_at "vv")) se_int))
      (ss_cons (ss_ret (se_var (i := 2) rfl (by walk_at "vv")))
      ss_nil))) ss_nil)
      (ss_cons (ss_asg se_int (sg_sub (W := WF) (hu_of hr) (se_var (i := 0) rfl (by walk_at "vv")) se_int))
      (ss_cons (ss_if (st_cmp (opGt) (se_var (i := 1) rfl (by walk_at "vv")) se_int) (ss_cons (ss_ret (se_bin (opMod) (se_callTy (callInt) (by walk_at "gl") hd.m_int (by rfl) (sa_cons (se_bin (opAdd hd.gK) (se_bin (opMul) (se_call Fs.f21 hd.gK hr (takes_of rfl rfl rfl rfl) (by walk_at "gl") (sa_cons (se_var (i := 0) rfl (by walk_at "vv")) (sa_cons (se_bin (opAdd hd.gK) (se_bin (opFdiv) (se_var (i := 1) rfl (by walk_at "vv")) se_int) se_int) sa_nil))) se_int) (se_call Fs.f21 hd.gK hr (takes_of rfl rfl rfl rfl) (by walk_at "gl") (sa_cons (se_var (i := 0) rfl (by walk_at "vv")) (sa_cons se_int sa_nil)))) sa_nil)) (se_var (i := 1) rfl (by walk_at "vv"))))
      ss_nil) ss_nil)
      (ss_cons (ss_asg (se_bin (opMod) (se_callTy (callInt) (by walk_at "gl") hd.m_int (by rfl) (sa_cons (se_bin (opAdd hd.gK) (se_bin (opAdd hd.gK) (se_bin (opMul) (se_ix hd.gK (se_var (i := 0) rfl (by walk_at "vv")) se_int) se_int) (se_bin (opMul) (se_ix hd.gK (se_var (i := 0) rfl (by walk_at "vv")) se_int) se_int)) se_int) sa_nil)) se_int) (sg_sub (W := WF) (hu_of hr) (se_var (i := 0) rfl (by walk_at "vv")) se_int))
      (ss_cons (ss_asg (se_bin (opAdd hd.gK) (se_ix hd.gK (se_var (i := 0) rfl (by walk_at "vv")) se_int) se_int) (sg_sub (W := WF) (hu_of hr) (se_var (i := 0) rfl (by walk_at "vv")) se_int))
      (ss_cons (ss_ret (se_bin (opMod) (se_callTy (callInt) (by walk_at "gl") hd.m_int (by rfl) (sa_cons (se_bin (opFdiv) (se_ix hd.gK (se_var (i := 0) rfl (by walk_at "vv")) se_int) se_int) sa_nil)) (se_var (i := 1) rfl (by walk_at "vv"))))
      ss_nil))))))
theorem nd22 : (["script", "most", "cells", "cell"] : List Str).Nodup := by decide +kernel
theorem d22 (hd : Hd K mg base g C_PlaceError cd tb) (Fs : Fs P w K mg base g c l c2 k) {f : Addr} {A : Around} {outer : List Env} {s : Shared} {H : Hp} {E : XK} (hr : Room k (A.deeper (envOfC "_law_rounds" (defScope (top 29)) s.heap.objs.size f (.ref (cd 22))))) :
    SSs (cxOf (L2.CX P w) P w K mg base ["script", "most", "cells", "cell"] "_law_rounds" (defScope (top 29)) f (.ref (cd 22)) A outer s H E) g (fun cls d _ H => E cls d H) (defBody (top 29)) (b22 c l c2) :=
    (ss_cons (ss_set nd22 rfl (by walk_at "lo") (se_sl hd.gK (se_var (i := 0) rfl (by walk_at "vv")) so_no (so_so (se_var (i := 1) rfl (by walk_at "vv")))))
      (ss_cons (ss_if (st_cmp (opEq hd.gK hr.units) (se_var (i := 2) rfl (by walk_at "vv")) (se_lst sa_nil)) (ss_cons (ss_set nd22 rfl (by walk_at "lo") (se_lst (sa_cons se_int sa_nil)))
      ss_nil) ss_nil)
      (ss_cons (ss_ret (se_lc rfl nd22 (si_any hd.gK (se_var (i := 2) rfl (by walk_at "vv"))) (blkOk_by (own := [("cell", 3)]) (by walk_at "blk")) (fun _ _ _ _ _ => (sgc_name (i := 3) nd22 rfl (by decide) (by walk_at "lo"))) (fun _ _ _ _ _ => sts_nil) (fun _ _ _ _ _ => (se_call Fs.f20 hd.gK hr takes_F (by walk_at "gl") (sa_cons (se_var (i := 3) rfl (by walk_at "vv")) sa_nil)))))
      ss_nil)))
theorem nd23 : (["what"] : List Str).Nodup := by decide +kernel
theorem d23 (hd : Hd K mg base g C_PlaceError cd tb) (Fs : Fs P w K mg base g c l c2 k) {f : Addr} {A : Around} {outer : List Env} {s : Shared} {H : Hp} {E : XK} (hr : Room k (A.deeper (envOfC "_law_told" (defScope (top 30)) s.heap.objs.size f (.ref (cd 23))))) :
    SSs (cxOf (L2.CX P w) P w K mg base ["what"] "_law_told" (defScope (top 30)) f (.ref (cd 23)) A outer s H E) g (fun cls d _ H => E cls d H) (defBody (top 30)) (b23 c l c2) :=
    (ss_cons (ss_try rfl rfl ⟨(by walk_at "gl"), by decide, .inl hd.x_PlaceError.gC⟩ (takes_of rfl rfl rfl rfl) hd.t_PlaceError (fun W' pn xe tk' hp' => (ss_cons (ss_ret (se_callV (i := 0) rfl (by walk_at "vv") hr tk' Fs.lam))
      ss_nil)) (fun a oe cls d pn _ _ => (ss_cons (ss_ret (se_str [80, 108, 97, 99, 101, 69, 114, 114, 111, 114]))
      ss_nil)))
      ss_nil)
theorem nd24 : (["dice", "deep", "names", "sort", "name"] : List Str).Nodup := by decide +kernel
theorem d24 (hd : Hd K mg base g C_PlaceError cd tb) (Fs : Fs P w K mg base g c l c2 k) {f : Addr} {A : Around} {outer : List Env} {s : Shared} {H : Hp} {E : XK} (hr : Room k (A.deeper (envOfC "_law_term" (defScope (top 31)) s.heap.objs.size f (.ref (cd 24))))) :
    SSs (cxOf (L2.CX P w) P w K mg base ["dice", "deep", "names", "sort", "name"] "_law_term" (defScope (top 31)) f (.ref (cd 24)) A outer s H E) g (fun cls d _ H => E cls d H) (defBody (top 31)) (b24 c l c2) :=
    (ss_cons (ss_set nd24 rfl (by walk_at "lo") (se_call Fs.f21 hd.gK hr (takes_of rfl rfl rfl rfl) (by walk_at "gl") (sa_cons (se_var (i := 0) rfl (by walk_at "vv")) (sa_cons (se_if (st_cmp (opGt) (se_var (i := 1) rfl (by walk_at "vv")) se_int) se_int se_int) sa_nil))))
      (ss_cons (ss_if (st_cmp (opLt) (se_var (i := 3) rfl (by walk_at "vv")) se_int) (ss_cons (ss_ret (se_if (st_cmp (opGt) (se_call Fs.f21 hd.gK hr (takes_of rfl rfl rfl rfl) (by walk_at "gl") (sa_cons (se_var (i := 0) rfl (by walk_at "vv")) (sa_cons se_int sa_nil))) se_int) (se_ix hd.gK (se_bin (opAdd hd.gK) (se_lst (sa_cons (se_str [120]) (sa_cons (se_str [121]) (sa_cons (se_str [122]) sa_nil)))) (se_var (i := 2) rfl (by walk_at "vv"))) (se_call Fs.f21 hd.gK hr (takes_of rfl rfl rfl rfl) (by walk_at "gl") (sa_cons (se_var (i := 0) rfl (by walk_at "vv")) (sa_cons (se_bin (opAdd hd.gK) se_int (se_callB (callLen hd.gK) (by walk_at "gl") hd.m_len (by rfl) (sa_cons (se_var (i := 2) rfl (by walk_at "vv")) sa_nil))) sa_nil)))) (se_call Fs.f21 hd.gK hr (takes_of rfl rfl rfl rfl) (by walk_at "gl") (sa_cons (se_var (i := 0) rfl (by walk_at "vv")) (sa_cons se_int sa_nil)))))
      ss_nil) ss_nil)
      (ss_cons (ss_if (st_cmp (opLt) (se_var (i := 3) rfl (by walk_at "vv")) se_int) (ss_cons (ss_set nd24 rfl (by walk_at "lo") (se_ix hd.gK (se_lst (sa_cons (se_str [120]) (sa_cons (se_str [121]) (sa_cons (se_str [122]) (sa_cons (se_str [117]) sa_nil))))) (se_call Fs.f21 hd.gK hr (takes_of rfl rfl rfl rfl) (by walk_at "gl") (sa_cons (se_var (i := 0) rfl (by walk_at "vv")) (sa_cons se_int sa_nil)))))
      (ss_cons (ss_ret (se_tup (sa_cons (se_str [102, 117, 110]) (sa_cons (se_var (i := 4) rfl (by walk_at "vv")) (sa_cons (se_call Fs.f24 hd.gK hr (takes_of rfl rfl rfl rfl) (by walk_at "gl") (sa_cons (se_var (i := 0) rfl (by walk_at "vv")) (sa_cons (se_bin (opSub) (se_var (i := 1) rfl (by walk_at "vv")) se_int) (sa_cons (se_var (i := 2) rfl (by walk_at "vv")) sa_nil)))) sa_nil)))))
      ss_nil)) ss_nil)
      (ss_cons (ss_ret (se_tup (sa_cons (se_str [97, 116]) (sa_cons (se_call Fs.f24 hd.gK hr (takes_of rfl rfl rfl rfl) (by walk_at "gl") (sa_cons (se_var (i := 0) rfl (by walk_at "vv")) (sa_cons (se_bin (opSub) (se_var (i := 1) rfl (by walk_at "vv")) se_int) (sa_cons (se_var (i := 2) rfl (by walk_at "vv")) sa_nil)))) (sa_cons (se_call Fs.f24 hd.gK hr (takes_of rfl rfl rfl rfl) (by walk_at "gl") (sa_cons (se_var (i := 0) rfl (by walk_at "vv")) (sa_cons (se_bin (opSub) (se_var (i := 1) rfl (by walk_at "vv")) se_int) (sa_cons (se_var (i := 2) rfl (by walk_at "vv")) sa_nil)))) sa_nil)))))
      ss_nil))))
theorem nd25 : (["dice", "deep", "names", "sort", "name"] : List Str).Nodup := by decide +kernel
theorem d25 (hd : Hd K mg base g C_PlaceError cd tb) (Fs : Fs P w K mg base g c l c2 k) {f : Addr} {A : Around} {outer : List Env} {s : Shared} {H : Hp} {E : XK} (hr : Room k (A.deeper (envOfC "_law_closed" (defScope (top 32)) s.heap.objs.size f (.ref (cd 25))))) :
    SSs (cxOf (L2.CX P w) P w K mg base ["dice", "deep", "names", "sort", "name"] "_law_closed" (defScope (top 32)) f (.ref (cd 25)) A outer s H E) g (fun cls d _ H => E cls d H) (defBody (top 32)) (b25 c l c2) :=
    (ss_cons (ss_set nd25 rfl (by walk_at "lo") (se_call Fs.f21 hd.gK hr (takes_of rfl rfl rfl rfl) (by walk_at "gl") (sa_cons (se_var (i := 0) rfl (by walk_at "vv")) (sa_cons (se_if (st_cmp (opGt) (se_var (i := 1) rfl (by walk_at "vv")) se_int) se_int se_int) sa_nil))))
      (ss_cons (ss_if (st_w (sw_and (st_cmp (opEq hd.gK hr.units) (se_var (i := 2) rfl (by walk_at "vv")) (se_lst sa_nil)) (sw_and1 (st_cmp (opLt) (se_var (i := 3) rfl (by walk_at "vv")) se_int)))) (ss_cons (ss_set nd25 rfl (by walk_at "lo") se_int)
      ss_nil) ss_nil)
      (ss_cons (ss_if (st_cmp (opLt) (se_var (i := 3) rfl (by walk_at "vv")) se_int) (ss_cons (ss_ret (se_ix hd.gK (se_var (i := 2) rfl (by walk_at "vv")) (se_call Fs.f21 hd.gK hr (takes_of rfl rfl rfl rfl) (by walk_at "gl") (sa_cons (se_var (i := 0) rfl (by walk_at "vv")) (sa_cons (se_callB (callLen hd.gK) (by walk_at "gl") hd.m_len (by rfl) (sa_cons (se_var (i := 2) rfl (by walk_at "vv")) sa_nil)) sa_nil)))))
      ss_nil) ss_nil)
      (ss_cons (ss_if (st_w (sw_or (st_cmp (opLt) (se_var (i := 3) rfl (by walk_at "vv")) se_int) (sw_or1 (st_cmp (opLt) (se_var (i := 1) rfl (by walk_at "vv")) se_int)))) (ss_cons (ss_set nd25 rfl (by walk_at "lo") (se_ix hd.gK (se_lst (sa_cons (se_str [120]) (sa_cons (se_str [121]) (sa_cons (se_str [122]) (sa_cons (se_str [117]) sa_nil))))) (se_call Fs.f21 hd.gK hr (takes_of rfl rfl rfl rfl) (by walk_at "gl") (sa_cons (se_var (i := 0) rfl (by walk_at "vv")) (sa_cons se_int sa_nil)))))
      (ss_cons (ss_ret (se_tup (sa_cons (se_str [102, 117, 110]) (sa_cons (se_var (i := 4) rfl (by walk_at "vv")) (sa_cons (se_call Fs.f25 hd.gK hr (takes_of rfl rfl rfl rfl) (by walk_at "gl") (sa_cons (se_var (i := 0) rfl (by walk_at "vv")) (sa_cons (se_bin (opSub) (se_var (i := 1) rfl (by walk_at "vv")) se_int) (sa_cons (se_bin (opAdd hd.gK) (se_var (i := 2) rfl (by walk_at "vv")) (se_lst (sa_cons (se_var (i := 4) rfl (by walk_at "vv")) sa_nil))) sa_nil)))) sa_nil)))))
      ss_nil)) ss_nil)
      (ss_cons (ss_ret (se_tup (sa_cons (se_str [97, 116]) (sa_cons (se_call Fs.f25 hd.gK hr (takes_of rfl rfl rfl rfl) (by walk_at "gl") (sa_cons (se_var (i := 0) rfl (by walk_at "vv")) (sa_cons (se_bin (opSub) (se_var (i := 1) rfl (by walk_at "vv")) se_int) (sa_cons (se_var (i := 2) rfl (by walk_at "vv")) sa_nil)))) (sa_cons (se_call Fs.f25 hd.gK hr (takes_of rfl rfl rfl rfl) (by walk_at "gl") (sa_cons (se_var (i := 0) rfl (by walk_at "vv")) (sa_cons (se_bin (opSub) (se_var (i := 1) rfl (by walk_at "vv")) se_int) (sa_cons (se_var (i := 2) rfl (by walk_at "vv")) sa_nil)))) sa_nil)))))
      ss_nil)))))
theorem nd26 : (["term", "around", "spots", "k", "name"] : List Str).Nodup := by decide +kernel
theorem d26 (hd : Hd K mg base g C_PlaceError cd tb) (Fs : Fs P w K mg base g c l c2 k) {f : Addr} {A : Around} {outer : List Env} {s : Shared} {H : Hp} {E : XK} (hr : Room k (A.deeper (envOfC "_law_places" (defScope (top 33)) s.heap.objs.size f (.ref (cd 26))))) :
    SSs (cxOf (L2.CX P w) P w K mg base ["term", "around", "spots", "k", "name"] "_law_places" (defScope (top 33)) f (.ref (cd 26)) A outer s H E) g (fun cls d _ H => E cls d H) (defBody (top 33)) (b26 c l c2) :=
    (ss_cons (ss_if (st_tru hd.gK (se_is1 "int" hd.gK (by decide) (by walk_at "gl") hd.m_isinstance (by walk_at "gl") hd.m_int (by rfl) (by decide) (se_var (i := 0) rfl (by walk_at "vv")))) (ss_cons (ss_ret (se_var (i := 0) rfl (by walk_at "vv")))
      ss_nil) ss_nil)
      (ss_cons (ss_if (st_tru hd.gK (se_is1 "str" hd.gK (by decide) (by walk_at "gl") hd.m_isinstance (by walk_at "gl") hd.m_str (by rfl) (by decide) (se_var (i := 0) rfl (by walk_at "vv")))) (ss_cons (ss_setLc rfl nd26 rfl rfl rfl (si_enm hd.gK (by walk_at "gl") hd.m_enumerate (sa_cons (se_var (i := 1) rfl (by walk_at "vv")) sa_nil)) (blkOk_by (own := [("k", 3), ("name", 4)]) (by walk_at "blk")) (fun _ _ _ _ _ => (sgc_tup hd.gK rfl (sgc_cons (sgc_name (i := 3) nd26 rfl (by decide) (by walk_at "lo")) (sgc_cons (sgc_name (i := 4) nd26 rfl (by decide) (by walk_at "lo")) sgc_nil)))) (fun _ _ _ _ _ => (sts_one (st_cmp (opEq hd.gK hr.units) (se_var (i := 4) rfl (by walk_at "vv")) (se_var (i := 0) rfl (by walk_at "vv"))))) (fun _ _ _ _ _ => (se_var (i := 3) rfl (by walk_at "vv"))))
      (ss_cons (ss_ret (se_if (st_cmp (opNe hd.gK hr.units) (se_var (i := 2) rfl (by walk_at "vv")) (se_lst sa_nil)) (se_tup (sa_cons (se_str [112, 108, 97, 99, 101]) (sa_cons (se_bin (opSub) (se_bin (opSub) (se_callB (callLen hd.gK) (by walk_at "gl") hd.m_len (by rfl) (sa_cons (se_var (i := 1) rfl (by walk_at "vv")) sa_nil)) se_int) (se_ix hd.gK (se_var (i := 2) rfl (by walk_at "vv")) se_neg)) sa_nil))) (se_var (i := 0) rfl (by walk_at "vv"))))
      ss_nil)) ss_nil)
      (ss_cons (ss_if (st_cmp (opEq hd.gK hr.units) (se_ix hd.gK (se_var (i := 0) rfl (by walk_at "vv")) se_int) (se_str [102, 117, 110])) (ss_cons (ss_ret (se_tup (sa_cons (se_str [102, 117, 110]) (sa_cons (se_call Fs.f26 hd.gK hr (takes_of rfl rfl rfl rfl) (by walk_at "gl") (sa_cons (se_ix hd.gK (se_var (i := 0) rfl (by walk_at "vv")) se_int) (sa_cons (se_bin (opAdd hd.gK) (se_var (i := 1) rfl (by walk_at "vv")) (se_lst (sa_cons (se_ix hd.gK (se_var (i := 0) rfl (by walk_at "vv")) se_int) sa_nil))) sa_nil))) sa_nil))))
      ss_nil) ss_nil)
      (ss_cons (ss_ret (se_tup (sa_cons (se_str [97, 116]) (sa_cons (se_call Fs.f26 hd.gK hr (takes_of rfl rfl rfl rfl) (by walk_at "gl") (sa_cons (se_ix hd.gK (se_var (i := 0) rfl (by walk_at "vv")) se_int) (sa_cons (se_var (i := 1) rfl (by walk_at "vv")) sa_nil))) (sa_cons (se_call Fs.f26 hd.gK hr (takes_of rfl rfl rfl rfl) (by walk_at "gl") (sa_cons (se_ix hd.gK (se_var (i := 0) rfl (by walk_at "vv")) se_int) (sa_cons (se_var (i := 1) rfl (by walk_at "vv")) sa_nil))) sa_nil)))))
      ss_nil))))
theorem nd27 : (["term", "by", "out"] : List Str).Nodup := by decide +kernel
theorem d27 (hd : Hd K mg base g C_PlaceError cd tb) (Fs : Fs P w K mg base g c l c2 k) {f : Addr} {A : Around} {outer : List Env} {s : Shared} {H : Hp} {E : XK} (hr : Room k (A.deeper (envOfC "_law_moved" (defScope (top 34)) s.heap.objs.size f (.ref (cd 27))))) :
    SSs (cxOf (L2.CX P w) P w K mg base ["term", "by", "out"] "_law_moved" (defScope (top 34)) f (.ref (cd 27)) A outer s H E) g (fun cls d _ H => E cls d H) (defBody (top 34)) (b27 c l c2) :=
    (ss_cons (ss_if (st_not (st_tru hd.gK (se_is1 "tuple" hd.gK (by decide) (by walk_at "gl") hd.m_isinstance (by walk_at "gl") hd.m_tuple (by rfl) (by decide) (se_var (i := 0) rfl (by walk_at "vv"))))) (ss_cons (ss_ret (se_var (i := 0) rfl (by walk_at "vv")))
      ss_nil) ss_nil)
      (ss_cons (ss_if (st_cmp (opEq hd.gK hr.units) (se_ix hd.gK (se_var (i := 0) rfl (by walk_at "vv")) se_int) (se_str [112, 108, 97, 99, 101])) (ss_cons (ss_ret (se_tup (sa_cons (se_str [112, 108, 97, 99, 101]) (sa_cons (se_bin (opAdd hd.gK) (se_ix hd.gK (se_var (i := 0) rfl (by walk_at "vv")) se_int) (se_bin (opMul) (se_var (i := 1) rfl (by walk_at "vv")) (se_callTy (callInt) (by walk_at "gl") hd.m_int (by rfl) (sa_cons (se_cmp (opGe) (se_ix hd.gK (se_var (i := 0) rfl (by walk_at "vv")) se_int) (se_var (i := 2) rfl (by walk_at "vv"))) sa_nil)))) sa_nil))))
      ss_nil) ss_nil)
      (ss_cons (ss_if (st_cmp (opEq hd.gK hr.units) (se_ix hd.gK (se_var (i := 0) rfl (by walk_at "vv")) se_int) (se_str [102, 117, 110])) (ss_cons (ss_ret (se_tup (sa_cons (se_str [102, 117, 110]) (sa_cons (se_call Fs.f27 hd.gK hr (takes_of rfl rfl rfl rfl) (by walk_at "gl") (sa_cons (se_ix hd.gK (se_var (i := 0) rfl (by walk_at "vv")) se_int) (sa_cons (se_var (i := 1) rfl (by walk_at "vv")) (sa_cons (se_bin (opAdd hd.gK) (se_var (i := 2) rfl (by walk_at "vv")) se_int) sa_nil)))) sa_nil))))
      ss_nil) ss_nil)
      (ss_cons (ss_ret (se_tup (sa_cons (se_str [97, 116]) (sa_cons (se_call Fs.f27 hd.gK hr (takes_of rfl rfl rfl rfl) (by walk_at "gl") (sa_cons (se_ix hd.gK (se_var (i := 0) rfl (by walk_at "vv")) se_int) (sa_cons (se_var (i := 1) rfl (by walk_at "vv")) (sa_cons (se_var (i := 2) rfl (by walk_at "vv")) sa_nil)))) (sa_cons (se_call Fs.f27 hd.gK hr (takes_of rfl rfl rfl rfl) (by walk_at "gl") (sa_cons (se_ix hd.gK (se_var (i := 0) rfl (by walk_at "vv")) se_int) (sa_cons (se_var (i := 1) rfl (by walk_at "vv")) (sa_cons (se_var (i := 2) rfl (by walk_at "vv")) sa_nil)))) sa_nil)))))
      ss_nil))))
theorem nd28 : (["term", "out", "other"] : List Str).Nodup := by decide +kernel
theorem d28 (hd : Hd K mg base g C_PlaceError cd tb) (Fs : Fs P w K mg base g c l c2 k) {f : Addr} {A : Around} {outer : List Env} {s : Shared} {H : Hp} {E : XK} (hr : Room k (A.deeper (envOfC "_law_put" (defScope (top 35)) s.heap.objs.size f (.ref (cd 28))))) :
    SSs (cxOf (L2.CX P w) P w K mg base ["term", "out", "other"] "_law_put" (defScope (top 35)) f (.ref (cd 28)) A outer s H E) g (fun cls d _ H => E cls d H) (defBody (top 35)) (b28 c l c2) :=
    (ss_cons (ss_if (st_not (st_tru hd.gK (se_is1 "tuple" hd.gK (by decide) (by walk_at "gl") hd.m_isinstance (by walk_at "gl") hd.m_tuple (by rfl) (by decide) (se_var (i := 0) rfl (by walk_at "vv"))))) (ss_cons (ss_ret (se_var (i := 0) rfl (by walk_at "vv")))
      ss_nil) ss_nil)
      (ss_cons (ss_if (st_cmp (opEq hd.gK hr.units) (se_ix hd.gK (se_var (i := 0) rfl (by walk_at "vv")) se_int) (se_str [112, 108, 97, 99, 101])) (ss_cons (ss_ret (se_if (st_cmp (opEq hd.gK hr.units) (se_ix hd.gK (se_var (i := 0) rfl (by walk_at "vv")) se_int) (se_var (i := 1) rfl (by walk_at "vv"))) (se_call Fs.f27 hd.gK hr (takes_of rfl rfl rfl rfl) (by walk_at "gl") (sa_cons (se_var (i := 2) rfl (by walk_at "vv")) (sa_cons (se_var (i := 1) rfl (by walk_at "vv")) (sa_cons se_int sa_nil)))) (se_tup (sa_cons (se_str [112, 108, 97, 99, 101]) (sa_cons (se_bin (opSub) (se_ix hd.gK (se_var (i := 0) rfl (by walk_at "vv")) se_int) (se_callTy (callInt) (by walk_at "gl") hd.m_int (by rfl) (sa_cons (se_cmp (opGt) (se_ix hd.gK (se_var (i := 0) rfl (by walk_at "vv")) se_int) (se_var (i := 1) rfl (by walk_at "vv"))) sa_nil))) sa_nil)))))
      ss_nil) ss_nil)
      (ss_cons (ss_if (st_cmp (opEq hd.gK hr.units) (se_ix hd.gK (se_var (i := 0) rfl (by walk_at "vv")) se_int) (se_str [102, 117, 110])) (ss_cons (ss_ret (se_tup (sa_cons (se_str [102, 117, 110]) (sa_cons (se_call Fs.f28 hd.gK hr (takes_of rfl rfl rfl rfl) (by walk_at "gl") (sa_cons (se_ix hd.gK (se_var (i := 0) rfl (by walk_at "vv")) se_int) (sa_cons (se_bin (opAdd hd.gK) (se_var (i := 1) rfl (by walk_at "vv")) se_int) (sa_cons (se_var (i := 2) rfl (by walk_at "vv")) sa_nil)))) sa_nil))))
      ss_nil) ss_nil)
      (ss_cons (ss_ret (se_tup (sa_cons (se_str [97, 116]) (sa_cons (se_call Fs.f28 hd.gK hr (takes_of rfl rfl rfl rfl) (by walk_at "gl") (sa_cons (se_ix hd.gK (se_var (i := 0) rfl (by walk_at "vv")) se_int) (sa_cons (se_var (i := 1) rfl (by walk_at "vv")) (sa_cons (se_var (i := 2) rfl (by walk_at "vv")) sa_nil)))) (sa_cons (se_call Fs.f28 hd.gK hr (takes_of rfl rfl rfl rfl) (by walk_at "gl") (sa_cons (se_ix hd.gK (se_var (i := 0) rfl (by walk_at "vv")) se_int) (sa_cons (se_var (i := 1) rfl (by walk_at "vv")) (sa_cons (se_var (i := 2) rfl (by walk_at "vv")) sa_nil)))) sa_nil)))))
      ss_nil))))
theorem nd29 : (["term", "table", "inner", "name", "other"] : List Str).Nodup := by decide +kernel
theorem d29 (hd : Hd K mg base g C_PlaceError cd tb) (Fs : Fs P w K mg base g c l c2 k) {f : Addr} {A : Around} {outer : List Env} {s : Shared} {H : Hp} {E : XK} (hr : Room k (A.deeper (envOfC "_law_other_names" (defScope (top 36)) s.heap.objs.size f (.ref (cd 29))))) :
    SSs (cxOf (L2.CX P w) P w K mg base ["term", "table", "inner", "name", "other"] "_law_other_names" (defScope (top 36)) f (.ref (cd 29)) A outer s H E) g (fun cls d _ H => E cls d H) (defBody (top 36)) (b29 c l c2) :=
    (ss_cons (ss_if (st_tru hd.gK (se_is1 "str" hd.gK (by decide) (by walk_at "gl") hd.m_isinstance (by walk_at "gl") hd.m_str (by rfl) (by decide) (se_var (i := 0) rfl (by walk_at "vv")))) (ss_cons (ss_ret (se_get2 (hu_of hr) (se_var (i := 1) rfl (by walk_at "vv")) (se_var (i := 0) rfl (by walk_at "vv")) (se_var (i := 0) rfl (by walk_at "vv"))))
      ss_nil) ss_nil)
      (ss_cons (ss_if (st_tru hd.gK (se_is1 "int" hd.gK (by decide) (by walk_at "gl") hd.m_isinstance (by walk_at "gl") hd.m_int (by rfl) (by decide) (se_var (i := 0) rfl (by walk_at "vv")))) (ss_cons (ss_ret (se_var (i := 0) rfl (by walk_at "vv")))
      ss_nil) ss_nil)
      (ss_cons (ss_if (st_cmp (opEq hd.gK hr.units) (se_ix hd.gK (se_var (i := 0) rfl (by walk_at "vv")) se_int) (se_str [97, 116])) (ss_cons (ss_ret (se_tup (sa_cons (se_str [97, 116]) (sa_cons (se_call Fs.f29 hd.gK hr (takes_of rfl rfl rfl rfl) (by walk_at "gl") (sa_cons (se_ix hd.gK (se_var (i := 0) rfl (by walk_at "vv")) se_int) (sa_cons (se_var (i := 1) rfl (by walk_at "vv")) sa_nil))) (sa_cons (se_call Fs.f29 hd.gK hr (takes_of rfl rfl rfl rfl) (by walk_at "gl") (sa_cons (se_ix hd.gK (se_var (i := 0) rfl (by walk_at "vv")) se_int) (sa_cons (se_var (i := 1) rfl (by walk_at "vv")) sa_nil))) sa_nil)))))
      ss_nil) ss_nil)
      (ss_cons (ss_set nd29 rfl (by walk_at "lo") (se_callTy (callDic hd.gK rfl) (by walk_at "gl") hd.m_dict (by rfl) (sa_cons (se_lock 1 (se_lc rfl nd29 (si_itm (se_var (i := 1) rfl (by walk_at "vv"))) (blkOk_by (own := [("name", 3), ("other", 4)]) (by walk_at "blk")) (fun _ _ _ _ _ => (sgc_tup hd.gK rfl (sgc_cons (sgc_name (i := 3) nd29 rfl (by decide) (by walk_at "lo")) (sgc_cons (sgc_name (i := 4) nd29 rfl (by decide) (by walk_at "lo")) sgc_nil)))) (fun _ _ _ _ _ => sts_nil) (fun _ _ _ _ _ => (se_tup (sa_cons (se_var (i := 3) rfl (by walk_at "vv")) (sa_cons (se_var (i := 4) rfl (by walk_at "vv")) sa_nil)))))) sa_nil)))
      (ss_cons (ss_asg (se_bin (opAdd hd.gK) (se_bin (opAdd hd.gK) (se_str [113]) (se_callTy (callStr) (by walk_at "gl") hd.m_str (by rfl) (sa_cons (se_callB (callLen hd.gK) (by walk_at "gl") hd.m_len (by rfl) (sa_cons (se_var (i := 1) rfl (by walk_at "vv")) sa_nil)) sa_nil))) (se_ix hd.gK (se_var (i := 0) rfl (by walk_at "vv")) se_int)) (sg_sub (W := WF) (hu_of hr) (se_var (i := 2) rfl (by walk_at "vv")) (se_ix hd.gK (se_var (i := 0) rfl (by walk_at "vv")) se_int)))
      (ss_cons (ss_ret (se_tup (sa_cons (se_str [102, 117, 110]) (sa_cons (se_dix (hu_of hr) (se_var (i := 2) rfl (by walk_at "vv")) (se_ix hd.gK (se_var (i := 0) rfl (by walk_at "vv")) se_int)) (sa_cons (se_call Fs.f29 hd.gK hr (takes_of rfl rfl rfl rfl) (by walk_at "gl") (sa_cons (se_ix hd.gK (se_var (i := 0) rfl (by walk_at "vv")) se_int) (sa_cons (se_var (i := 2) rfl (by walk_at "vv")) sa_nil))) sa_nil)))))
      ss_nil))))))
theorem nd30 : (["term"] : List Str).Nodup := by decide +kernel
theorem d30 (hd : Hd K mg base g C_PlaceError cd tb) (Fs : Fs P w K mg base g c l c2 k) {f : Addr} {A : Around} {outer : List Env} {s : Shared} {H : Hp} {E : XK} (hr : Room k (A.deeper (envOfC "_law_text" (defScope (top 37)) s.heap.objs.size f (.ref (cd 30))))) :
    SSs (cxOf (L2.CX P w) P w K mg base ["term"] "_law_text" (defScope (top 37)) f (.ref (cd 30)) A outer s H E) g (fun cls d _ H => E cls d H) (defBody (top 37)) (b30 c l c2) :=
    (ss_cons (ss_if (st_not (st_tru hd.gK (se_is1 "tuple" hd.gK (by decide) (by walk_at "gl") hd.m_isinstance (by walk_at "gl") hd.m_tuple (by rfl) (by decide) (se_var (i := 0) rfl (by walk_at "vv"))))) (ss_cons (ss_ret (se_callTy (callStr) (by walk_at "gl") hd.m_str (by rfl) (sa_cons (se_var (i := 0) rfl (by walk_at "vv")) sa_nil)))
      ss_nil) ss_nil)
      (ss_cons (ss_if (st_cmp (opEq hd.gK hr.units) (se_ix hd.gK (se_var (i := 0) rfl (by walk_at "vv")) se_int) (se_str [112, 108, 97, 99, 101])) (ss_cons (ss_ret (se_bin (opAdd hd.gK) (se_str [35]) (se_callTy (callStr) (by walk_at "gl") hd.m_str (by rfl) (sa_cons (se_ix hd.gK (se_var (i := 0) rfl (by walk_at "vv")) se_int) sa_nil))))
      ss_nil) ss_nil)
      (ss_cons (ss_ret (se_if (st_cmp (opEq hd.gK hr.units) (se_ix hd.gK (se_var (i := 0) rfl (by walk_at "vv")) se_int) (se_str [102, 117, 110])) (se_bin (opAdd hd.gK) (se_str [33]) (se_call Fs.f30 hd.gK hr (takes_of rfl rfl rfl rfl) (by walk_at "gl") (sa_cons (se_ix hd.gK (se_var (i := 0) rfl (by walk_at "vv")) se_int) sa_nil))) (se_bin (opAdd hd.gK) (se_bin (opAdd hd.gK) (se_bin (opAdd hd.gK) (se_bin (opAdd hd.gK) (se_str [40]) (se_call Fs.f30 hd.gK hr (takes_of rfl rfl rfl rfl) (by walk_at "gl") (sa_cons (se_ix hd.gK (se_var (i := 0) rfl (by walk_at "vv")) se_int) sa_nil))) (se_str [32])) (se_call Fs.f30 hd.gK hr (takes_of rfl rfl rfl rfl) (by walk_at "gl") (sa_cons (se_ix hd.gK (se_var (i := 0) rfl (by walk_at "vv")) se_int) sa_nil))) (se_str [41]))))
      ss_nil)))
theorem nd31 : (["term"] : List Str).Nodup := by decide +kernel
theorem d31 (hd : Hd K mg base g C_PlaceError cd tb) (Fs : Fs P w K mg base g c l c2 k) {f : Addr} {A : Around} {outer : List Env} {s : Shared} {H : Hp} {E : XK} (hr : Room k (A.deeper (envOfC "_law_bits" (defScope (top 38)) s.heap.objs.size f (.ref (cd 31))))) :
    SSs (cxOf (L2.CX P w) P w K mg base ["term"] "_law_bits" (defScope (top 38)) f (.ref (cd 31)) A outer s H E) g (fun cls d _ H => E cls d H) (defBody (top 38)) (b31 c l c2) :=
    (ss_cons (ss_if (st_cmp (opEq hd.gK hr.units) (se_ix hd.gK (se_var (i := 0) rfl (by walk_at "vv")) se_int) (se_str [112, 108, 97, 99, 101])) (ss_cons (ss_ret (se_bin (opAdd hd.gK) (se_bin (opMul) (se_str [49]) (se_ix hd.gK (se_var (i := 0) rfl (by walk_at "vv")) se_int)) (se_str [49, 48])))
      ss_nil) ss_nil)
      (ss_cons (ss_ret (se_if (st_cmp (opEq hd.gK hr.units) (se_ix hd.gK (se_var (i := 0) rfl (by walk_at "vv")) se_int) (se_str [102, 117, 110])) (se_bin (opAdd hd.gK) (se_str [48, 48]) (se_call Fs.f31 hd.gK hr (takes_of rfl rfl rfl rfl) (by walk_at "gl") (sa_cons (se_ix hd.gK (se_var (i := 0) rfl (by walk_at "vv")) se_int) sa_nil))) (se_bin (opAdd hd.gK) (se_bin (opAdd hd.gK) (se_str [48, 49]) (se_call Fs.f31 hd.gK hr (takes_of rfl rfl rfl rfl) (by walk_at "gl") (sa_cons (se_ix hd.gK (se_var (i := 0) rfl (by walk_at "vv")) se_int) sa_nil))) (se_call Fs.f31 hd.gK hr (takes_of rfl rfl rfl rfl) (by walk_at "gl") (sa_cons (se_ix hd.gK (se_var (i := 0) rfl (by walk_at "vv")) se_int) sa_nil)))))
      ss_nil))
theorem nd32 : (["term", "out"] : List Str).Nodup := by decide +kernel
theorem d32 (hd : Hd K mg base g C_PlaceError cd tb) (Fs : Fs P w K mg base g c l c2 k) {f : Addr} {A : Around} {outer : List Env} {s : Shared} {H : Hp} {E : XK} (hr : Room k (A.deeper (envOfC "_law_uses" (defScope (top 39)) s.heap.objs.size f (.ref (cd 32))))) :
    SSs (cxOf (L2.CX P w) P w K mg base ["term", "out"] "_law_uses" (defScope (top 39)) f (.ref (cd 32)) A outer s H E) g (fun cls d _ H => E cls d H) (defBody (top 39)) (b32 c l c2) :=
    (ss_cons (ss_if (st_not (st_tru hd.gK (se_is1 "tuple" hd.gK (by decide) (by walk_at "gl") hd.m_isinstance (by walk_at "gl") hd.m_tuple (by rfl) (by decide) (se_var (i := 0) rfl (by walk_at "vv"))))) (ss_cons (ss_ret se_int)
      ss_nil) ss_nil)
      (ss_cons (ss_if (st_cmp (opEq hd.gK hr.units) (se_ix hd.gK (se_var (i := 0) rfl (by walk_at "vv")) se_int) (se_str [112, 108, 97, 99, 101])) (ss_cons (ss_ret (se_callTy (callInt) (by walk_at "gl") hd.m_int (by rfl) (sa_cons (se_cmp (opEq hd.gK hr.units) (se_ix hd.gK (se_var (i := 0) rfl (by walk_at "vv")) se_int) (se_var (i := 1) rfl (by walk_at "vv"))) sa_nil)))
      ss_nil) ss_nil)
      (ss_cons (ss_ret (se_if (st_cmp (opEq hd.gK hr.units) (se_ix hd.gK (se_var (i := 0) rfl (by walk_at "vv")) se_int) (se_str [102, 117, 110])) (se_call Fs.f32 hd.gK hr (takes_of rfl rfl rfl rfl) (by walk_at "gl") (sa_cons (se_ix hd.gK (se_var (i := 0) rfl (by walk_at "vv")) se_int) (sa_cons (se_bin (opAdd hd.gK) (se_var (i := 1) rfl (by walk_at "vv")) se_int) sa_nil))) (se_bin (opAdd hd.gK) (se_call Fs.f32 hd.gK hr (takes_of rfl rfl rfl rfl) (by walk_at "gl") (sa_cons (se_ix hd.gK (se_var (i := 0) rfl (by walk_at "vv")) se_int) (sa_cons (se_var (i := 1) rfl (by walk_at "vv")) sa_nil))) (se_call Fs.f32 hd.gK hr (takes_of rfl rfl rfl rfl) (by walk_at "gl") (sa_cons (se_ix hd.gK (se_var (i := 0) rfl (by walk_at "vv")) se_int) (sa_cons (se_var (i := 1) rfl (by walk_at "vv")) sa_nil))))))
      ss_nil)))
theorem nd33 : (["term", "told", "bad", "due", "k", "f"] : List Str).Nodup := by decide +kernel
theorem d33 (hd : Hd K mg base g C_PlaceError cd tb) (Fs : Fs P w K mg base g c l c2 k) {f : Addr} {A : Around} {outer : List Env} {s : Shared} {H : Hp} {E : XK} (hr : Room k (A.deeper (envOfC "_law_plain" (defScope (top 40)) s.heap.objs.size f (.ref (cd 33))))) :
    SSs (cxOf (L2.CX P w) P w K mg base ["term", "told", "bad", "due", "k", "f"] "_law_plain" (defScope (top 40)) f (.ref (cd 33)) A outer s H E) g (fun cls d _ H => E cls d H) (defBody (top 40)) (b33 c l c2) :=
    (ss_cons (ss_set nd33 rfl (by walk_at "lo") (se_tup (sa_cons (se_str [102, 117, 110]) (sa_cons (se_str [120]) (sa_cons (se_tup (sa_cons (se_str [102, 117, 110]) (sa_cons (se_str [121]) (sa_cons (se_tup (sa_cons (se_str [97, 116]) (sa_cons (se_tup (sa_cons (se_str [97, 116]) (sa_cons (se_str [120]) (sa_cons (se_str [122]) sa_nil)))) (sa_cons (se_tup (sa_cons (se_str [102, 117, 110]) (sa_cons (se_str [120]) (sa_cons (se_tup (sa_cons (se_str [97, 116]) (sa_cons (se_str [120]) (sa_cons (se_str [121]) sa_nil)))) sa_nil)))) sa_nil)))) sa_nil)))) sa_nil)))))
      (ss_cons (ss_set nd33 rfl (by walk_at "lo") (se_lst (sa_cons (se_call Fs.f1d1 hd.gK hr (takes_of rfl rfl rfl rfl) (by walk_at "gl") (sa_cons (se_var (i := 0) rfl (by walk_at "vv")) sa_nil)) (sa_cons (se_call Fs.f3 hd.gK hr (takes_of rfl rfl rfl rfl) (by walk_at "gl") (sa_cons (se_call Fs.f1d1 hd.gK hr (takes_of rfl rfl rfl rfl) (by walk_at "gl") (sa_cons (se_var (i := 0) rfl (by walk_at "vv")) sa_nil)) sa_nil)) (sa_cons (se_call Fs.f8 hd.gK hr (takes_of rfl rfl rfl rfl) (by walk_at "gl") (sa_cons (se_tup (sa_cons (se_str [102, 117, 110]) (sa_cons (se_str [113]) (sa_cons (se_tup (sa_cons (se_str [97, 116]) (sa_cons (se_str [113]) (sa_cons (se_str [97]) sa_nil)))) sa_nil)))) sa_nil)) sa_nil)))))
      (ss_cons (ss_set nd33 rfl (by walk_at "lo") (se_bin (opAdd hd.gK) (se_var (i := 1) rfl (by walk_at "vv")) (se_lst (sa_cons (se_call Fs.f7 hd.gK hr (takes_of rfl rfl rfl rfl) (by walk_at "gl") (sa_cons (se_tup (sa_cons (se_str [102, 117, 110]) (sa_cons (se_str [120]) (sa_cons (se_str [120]) sa_nil)))) (sa_cons (se_tup (sa_cons (se_str [102, 117, 110]) (sa_cons (se_str [121]) (sa_cons (se_str [121]) sa_nil)))) sa_nil))) (sa_cons (se_call Fs.f7 hd.gK hr (takes_of rfl rfl rfl rfl) (by walk_at "gl") (sa_cons (se_tup (sa_cons (se_str [102, 117, 110]) (sa_cons (se_str [120]) (sa_cons (se_str [121]) sa_nil)))) (sa_cons (se_tup (sa_cons (se_str [102, 117, 110]) (sa_cons (se_str [121]) (sa_cons (se_str [121]) sa_nil)))) sa_nil))) (sa_cons (se_call Fs.f6 hd.gK hr (takes_of rfl rfl rfl rfl) (by walk_at "gl") (sa_cons (se_tup sa_nil) sa_nil)) sa_nil))))))
      (ss_cons (ss_set nd33 rfl (by walk_at "lo") (se_bin (opAdd hd.gK) (se_var (i := 1) rfl (by walk_at "vv")) (se_lst (sa_cons (se_call Fs.f6 hd.gK hr (takes_of rfl rfl rfl rfl) (by walk_at "gl") (sa_cons (se_callTy (callTup3 hd.gK rfl) (by walk_at "gl") hd.m_tuple (by rfl) (sa_cons (se_str [97, 98, 99, 100, 101, 102, 103, 104, 105, 106, 107, 108, 109, 110, 111, 112, 113, 114, 115, 116, 117, 118, 119, 120, 121, 122]) sa_nil)) sa_nil)) sa_nil))))
      (ss_cons (ss_set nd33 rfl (by walk_at "lo") (se_bin (opAdd hd.gK) (se_var (i := 1) rfl (by walk_at "vv")) (se_lst (sa_cons (se_call Fs.f9d1 hd.gK hr (takes_of rfl rfl rfl rfl) (by walk_at "gl") (sa_cons (se_tup (sa_cons (se_str [97, 116]) (sa_cons (se_tup (sa_cons (se_str [112, 108, 97, 99, 101]) (sa_cons se_int sa_nil))) (sa_cons (se_tup (sa_cons (se_str [102, 117, 110]) (sa_cons (se_tup (sa_cons (se_str [97, 116]) (sa_cons (se_tup (sa_cons (se_str [112, 108, 97, 99, 101]) (sa_cons se_int sa_nil))) (sa_cons (se_tup (sa_cons (se_str [112, 108, 97, 99, 101]) (sa_cons se_int sa_nil))) sa_nil)))) sa_nil))) sa_nil)))) (sa_cons se_int sa_nil))) (sa_cons (se_call Fs.f9 hd.gK hr (takes_of rfl rfl rfl rfl) (by walk_at "gl") (sa_cons (se_tup (sa_cons (se_str [112, 108, 97, 99, 101]) (sa_cons se_int sa_nil))) (sa_cons se_neg (sa_cons se_int sa_nil)))) (sa_cons (se_call Fs.f10 hd.gK hr (takes_of rfl rfl rfl rfl) (by walk_at "gl") (sa_cons (se_tup (sa_cons (se_str [97, 116]) (sa_cons (se_tup (sa_cons (se_str [112, 108, 97, 99, 101]) (sa_cons se_int sa_nil))) (sa_cons (se_tup (sa_cons (se_str [102, 117, 110]) (sa_cons (se_tup (sa_cons (se_str [97, 116]) (sa_cons (se_tup (sa_cons (se_str [112, 108, 97, 99, 101]) (sa_cons se_int sa_nil))) (sa_cons (se_tup (sa_cons (se_str [112, 108, 97, 99, 101]) (sa_cons se_int sa_nil))) sa_nil)))) sa_nil))) sa_nil)))) (sa_cons se_int (sa_cons (se_tup (sa_cons (se_str [102, 117, 110]) (sa_cons (se_tup (sa_cons (se_str [112, 108, 97, 99, 101]) (sa_cons se_int sa_nil))) sa_nil))) sa_nil)))) (sa_cons (se_call Fs.f11 hd.gK hr (takes_of rfl rfl rfl rfl) (by walk_at "gl") (sa_cons (se_call Fs.f1d1 hd.gK hr (takes_of rfl rfl rfl rfl) (by walk_at "gl") (sa_cons (se_tup (sa_cons (se_str [97, 116]) (sa_cons (se_tup (sa_cons (se_str [102, 117, 110]) (sa_cons (se_str [120]) (sa_cons (se_tup (sa_cons (se_str [97, 116]) (sa_cons (se_str [120]) (sa_cons (se_str [120]) sa_nil)))) sa_nil)))) (sa_cons (se_str [122]) sa_nil)))) sa_nil)) sa_nil)) sa_nil)))))))
      (ss_cons (ss_set nd33 rfl (by walk_at "lo") (se_bin (opAdd hd.gK) (se_var (i := 1) rfl (by walk_at "vv")) (se_lst (sa_cons (se_call Fs.f12 hd.gK hr (takes_of rfl rfl rfl rfl) (by walk_at "gl") (sa_cons (se_call Fs.f1d1 hd.gK hr (takes_of rfl rfl rfl rfl) (by walk_at "gl") (sa_cons (se_var (i := 0) rfl (by walk_at "vv")) sa_nil)) sa_nil)) (sa_cons (se_call Fs.f12 hd.gK hr (takes_of rfl rfl rfl rfl) (by walk_at "gl") (sa_cons (se_tup (sa_cons (se_str [97, 116]) (sa_cons (se_str [120]) (sa_cons (se_tup (sa_cons (se_str [97, 116]) (sa_cons se_int (sa_cons (se_str [121]) sa_nil)))) sa_nil)))) sa_nil)) (sa_cons (se_call Fs.f13 hd.gK hr (takes_of rfl rfl rfl rfl) (by walk_at "gl") (sa_cons (se_tup (sa_cons (se_str [97, 116]) (sa_cons (se_str [120]) (sa_cons (se_str [121]) sa_nil)))) sa_nil)) (sa_cons (se_call Fs.f14d1 hd.gK hr (takes_of rfl rfl rfl rfl) (by walk_at "gl") (sa_cons (se_tup (sa_cons (se_str [97, 116]) (sa_cons (se_tup (sa_cons (se_str [112, 108, 97, 99, 101]) (sa_cons se_int sa_nil))) (sa_cons (se_tup (sa_cons (se_str [102, 117, 110]) (sa_cons (se_tup (sa_cons (se_str [112, 108, 97, 99, 101]) (sa_cons se_int sa_nil))) sa_nil))) sa_nil)))) sa_nil)) (sa_cons (se_call Fs.f15 hd.gK hr (takes_of rfl rfl rfl rfl) (by walk_at "gl") (sa_cons (se_call Fs.f1d1 hd.gK hr (takes_of rfl rfl rfl rfl) (by walk_at "gl") (sa_cons (se_tup (sa_cons (se_str [102, 117, 110]) (sa_cons (se_str [120]) (sa_cons (se_tup (sa_cons (se_str [102, 117, 110]) (sa_cons (se_str [121]) (sa_cons (se_str [120]) sa_nil)))) sa_nil)))) sa_nil)) sa_nil)) (sa_cons (se_call Fs.f16 hd.gK hr (takes_of rfl rfl rfl rfl) (by walk_at "gl") (sa_cons (se_str [48, 48, 48, 48, 49, 49, 48]) sa_nil)) (sa_cons (se_call Fs.f17 hd.gK hr (takes_of rfl rfl rfl rfl) (by walk_at "gl") (sa_cons (se_str [49, 49, 48, 48]) (sa_cons se_int sa_nil))) sa_nil))))))))))
      (ss_cons (ss_set nd33 rfl (by walk_at "lo") (se_bin (opAdd hd.gK) (se_var (i := 1) rfl (by walk_at "vv")) (se_lst (sa_cons (se_call Fs.f18 hd.gK hr (takes_of rfl rfl rfl rfl) (by walk_at "gl") (sa_cons (se_var (i := 0) rfl (by walk_at "vv")) sa_nil)) (sa_cons (se_call Fs.f19 hd.gK hr (takes_of rfl rfl rfl rfl) (by walk_at "gl") (sa_cons (se_var (i := 0) rfl (by walk_at "vv")) sa_nil)) (sa_cons (se_call Fs.f19 hd.gK hr (takes_of rfl rfl rfl rfl) (by walk_at "gl") (sa_cons (se_tup (sa_cons (se_str [102, 117, 110]) (sa_cons (se_str [120]) (sa_cons (se_tup (sa_cons (se_str [97, 116]) (sa_cons (se_str [120]) (sa_cons (se_str [121]) sa_nil)))) sa_nil)))) sa_nil)) (sa_cons (se_call Fs.f19 hd.gK hr (takes_of rfl rfl rfl rfl) (by walk_at "gl") (sa_cons (se_tup (sa_cons (se_str [97, 116]) (sa_cons (se_tup (sa_cons (se_str [102, 117, 110]) (sa_cons (se_str [120]) (sa_cons (se_str [120]) sa_nil)))) (sa_cons (se_str [120]) sa_nil)))) sa_nil)) (sa_cons (se_call Fs.f4 hd.gK hr (takes_of rfl rfl rfl rfl) (by walk_at "gl") (sa_cons (se_call Fs.f1d1 hd.gK hr (takes_of rfl rfl rfl rfl) (by walk_at "gl") (sa_cons (se_var (i := 0) rfl (by walk_at "vv")) sa_nil)) sa_nil)) (sa_cons (se_call Fs.f5 hd.gK hr (takes_of rfl rfl rfl rfl) (by walk_at "gl") (sa_cons (se_tup (sa_cons (se_str [102, 117, 110]) (sa_cons (se_tup (sa_cons (se_str [112, 108, 97, 99, 101]) (sa_cons se_int sa_nil))) sa_nil))) (sa_cons (se_tup sa_nil) (sa_cons (se_tup (sa_cons (se_str [97]) sa_nil)) sa_nil)))) (sa_cons (se_call Fs.f1 hd.gK hr (takes_of rfl rfl rfl rfl) (by walk_at "gl") (sa_cons (se_str [120]) (sa_cons (se_tup (sa_cons (se_str [120]) (sa_cons (se_str [121]) (sa_cons (se_str [120]) sa_nil)))) sa_nil))) (sa_cons (se_call Fs.f2d1 hd.gK hr (takes_of rfl rfl rfl rfl) (by walk_at "gl") (sa_cons (se_str [120]) sa_nil)) (sa_cons (se_globI (by walk_at "gl") hd.c_FREE_BASE) sa_nil))))))))))))
      (ss_cons (ss_set nd33 rfl (by walk_at "lo") (se_lst (sa_cons (se_lam 0 (hd.lt 0) hd.tb33 rfl rfl hd.hT33 hd.hu33) (sa_cons (se_lam 1 (hd.lt 1) hd.tb33 rfl rfl hd.hT33 hd.hu33) (sa_cons (se_lam 2 (hd.lt 2) hd.tb33 rfl rfl hd.hT33 hd.hu33) (sa_cons (se_lam 3 (hd.lt 3) hd.tb33 rfl rfl hd.hT33 hd.hu33) (sa_cons (se_lam 4 (hd.lt 4) hd.tb33 rfl rfl hd.hT33 hd.hu33) sa_nil)))))))
      (ss_cons (ss_set nd33 rfl (by walk_at "lo") (se_bin (opAdd hd.gK) (se_var (i := 2) rfl (by walk_at "vv")) (se_lst (sa_cons (se_lam 5 (hd.lt 5) hd.tb33 rfl rfl hd.hT33 hd.hu33) (sa_cons (se_lam 6 (hd.lt 6) hd.tb33 rfl rfl hd.hT33 hd.hu33) (sa_cons (se_lam 7 (hd.lt 7) hd.tb33 rfl rfl hd.hT33 hd.hu33) (sa_cons (se_lam 8 (hd.lt 8) hd.tb33 rfl rfl hd.hT33 hd.hu33) (sa_cons (se_lam 9 (hd.lt 9) hd.tb33 rfl rfl hd.hT33 hd.hu33) sa_nil))))))))
      (ss_cons (ss_set nd33 rfl (by walk_at "lo") (se_bin (opAdd hd.gK) (se_var (i := 2) rfl (by walk_at "vv")) (se_lst (sa_cons (se_lam 10 (hd.lt 10) hd.tb33 rfl rfl hd.hT33 hd.hu33) (sa_cons (se_lam 11 (hd.lt 11) hd.tb33 rfl rfl hd.hT33 hd.hu33) (sa_cons (se_lam 12 (hd.lt 12) hd.tb33 rfl rfl hd.hT33 hd.hu33) (sa_cons (se_lam 13 (hd.lt 13) hd.tb33 rfl rfl hd.hT33 hd.hu33) (sa_cons (se_lam 14 (hd.lt 14) hd.tb33 rfl rfl hd.hT33 hd.hu33) sa_nil))))))))
      (ss_cons (ss_if (st_cmp (opNe hd.gK hr.units) (se_lc rfl nd33 (si_enm hd.gK (by walk_at "gl") hd.m_enumerate (sa_cons (se_var (i := 2) rfl (by walk_at "vv")) sa_nil)) (blkOk_by (own := [("k", 4), ("f", 5)]) (by walk_at "blk")) (fun _ _ _ _ _ => (sgc_tup hd.gK rfl (sgc_cons (sgc_name (i := 4) nd33 rfl (by decide) (by walk_at "lo")) (sgc_cons (sgc_name (i := 5) nd33 rfl (by decide) (by walk_at "lo")) sgc_nil)))) (fun _ _ _ _ _ => (sts_one (st_cmp (opNe hd.gK hr.units) (se_call Fs.f23 hd.gK hr takes_F (by walk_at "gl") (sa_cons (se_var (i := 5) rfl (by walk_at "vv")) sa_nil)) (se_str [80, 108, 97, 99, 101, 69, 114, 114, 111, 114])))) (fun _ _ _ _ _ => (se_var (i := 4) rfl (by walk_at "vv")))) (se_lst sa_nil)) (ss_cons (ss_ret se_bl)
      ss_nil) ss_nil)
      (ss_cons (ss_set nd33 rfl (by walk_at "lo") (se_lst (sa_cons (se_tup (sa_cons (se_str [102, 117, 110]) (sa_cons (se_tup (sa_cons (se_str [102, 117, 110]) (sa_cons (se_tup (sa_cons (se_str [97, 116]) (sa_cons (se_tup (sa_cons (se_str [97, 116]) (sa_cons (se_tup (sa_cons (se_str [112, 108, 97, 99, 101]) (sa_cons se_int sa_nil))) (sa_cons (se_str [122]) sa_nil)))) (sa_cons (se_tup (sa_cons (se_str [102, 117, 110]) (sa_cons (se_tup (sa_cons (se_str [97, 116]) (sa_cons (se_tup (sa_cons (se_str [112, 108, 97, 99, 101]) (sa_cons se_int sa_nil))) (sa_cons (se_tup (sa_cons (se_str [112, 108, 97, 99, 101]) (sa_cons se_int sa_nil))) sa_nil)))) sa_nil))) sa_nil)))) sa_nil))) sa_nil))) (sa_cons (se_tup (sa_cons (se_str [102, 117, 110]) (sa_cons (se_str [97]) (sa_cons (se_tup (sa_cons (se_str [102, 117, 110]) (sa_cons (se_str [98]) (sa_cons (se_tup (sa_cons (se_str [97, 116]) (sa_cons (se_tup (sa_cons (se_str [97, 116]) (sa_cons (se_str [97]) (sa_cons (se_str [122]) sa_nil)))) (sa_cons (se_tup (sa_cons (se_str [102, 117, 110]) (sa_cons (se_str [99]) (sa_cons (se_tup (sa_cons (se_str [97, 116]) (sa_cons (se_str [99]) (sa_cons (se_str [98]) sa_nil)))) sa_nil)))) sa_nil)))) sa_nil)))) sa_nil)))) (sa_cons (se_tup (sa_cons (se_str [102, 117, 110]) (sa_cons (se_str [98]) (sa_cons (se_tup (sa_cons (se_str [97, 116]) (sa_cons (se_str [98]) (sa_cons (se_str [97]) sa_nil)))) sa_nil)))) (sa_cons se_bl (sa_cons se_bl (sa_cons (se_str [97]) (sa_cons (se_str [97, 49]) (sa_cons (se_tup (sa_cons (se_str [97, 116]) (sa_cons (se_tup (sa_cons (se_str [112, 108, 97, 99, 101]) (sa_cons se_int sa_nil))) (sa_cons (se_tup (sa_cons (se_str [102, 117, 110]) (sa_cons (se_tup (sa_cons (se_str [97, 116]) (sa_cons (se_tup (sa_cons (se_str [112, 108, 97, 99, 101]) (sa_cons se_int sa_nil))) (sa_cons (se_tup (sa_cons (se_str [112, 108, 97, 99, 101]) (sa_cons se_int sa_nil))) sa_nil)))) sa_nil))) sa_nil)))) (sa_cons (se_tup (sa_cons (se_str [112, 108, 97, 99, 101]) (sa_cons se_int sa_nil))) (sa_cons (se_tup (sa_cons (se_str [97, 116]) (sa_cons (se_tup (sa_cons (se_str [102, 117, 110]) (sa_cons (se_tup (sa_cons (se_str [112, 108, 97, 99, 101]) (sa_cons se_int sa_nil))) sa_nil))) (sa_cons (se_tup (sa_cons (se_str [102, 117, 110]) (sa_cons (se_tup (sa_cons (se_str [97, 116]) (sa_cons (se_tup (sa_cons (se_str [102, 117, 110]) (sa_cons (se_tup (sa_cons (se_str [112, 108, 97, 99, 101]) (sa_cons se_int sa_nil))) sa_nil))) (sa_cons (se_tup (sa_cons (se_str [112, 108, 97, 99, 101]) (sa_cons se_int sa_nil))) sa_nil)))) sa_nil))) sa_nil)))) (sa_cons (se_tup (sa_cons (se_str [97, 116]) (sa_cons (se_str [122]) (sa_cons (se_str [122]) sa_nil)))) (sa_cons (se_str [33, 33, 40, 40, 35, 49, 32, 122, 41, 32, 33, 40, 35, 48, 32, 35, 49, 41, 41]) (sa_cons (se_str [120, 32, 40, 51, 32, 121, 41]) (sa_cons (se_str [40, 120, 32, 121, 41]) (sa_cons se_int (sa_cons (se_str [48, 48, 48, 48, 49, 49, 48]) (sa_cons (se_tup (sa_cons (se_str [102, 117, 110]) (sa_cons (se_tup (sa_cons (se_str [102, 117, 110]) (sa_cons (se_tup (sa_cons (se_str [112, 108, 97, 99, 101]) (sa_cons se_int sa_nil))) sa_nil))) sa_nil))) (sa_cons (se_tup (sa_cons (se_tup (sa_cons (se_str [112, 108, 97, 99, 101]) (sa_cons se_int sa_nil))) (sa_cons se_int sa_nil))) (sa_cons se_int (sa_cons se_bl (sa_cons se_bl (sa_cons se_bl (sa_cons (se_tup (sa_cons (se_str [122]) sa_nil)) (sa_cons (se_tup (sa_cons (se_str [102, 117, 110]) (sa_cons (se_str [98]) (sa_cons (se_str [98]) sa_nil)))) (sa_cons (se_tup (sa_cons (se_str [112, 108, 97, 99, 101]) (sa_cons se_int sa_nil))) (sa_cons se_non (sa_cons se_int sa_nil)))))))))))))))))))))))))))))
      (ss_cons (ss_ret (se_cmp (opEq hd.gK hr.units) (se_var (i := 1) rfl (by walk_at "vv")) (se_var (i := 3) rfl (by walk_at "vv"))))
      ss_nil)))))))))))))
theorem nd34 : (["script", "dice", "due", "fresh", "value", "closed", "bits", "term", "other", "deep", "row", "body", "by", "out", "k", "one", "many"] : List Str).Nodup := by decide +kernel
theorem d34 (hd : Hd K mg base g C_PlaceError cd tb) (Fs : Fs P w K mg base g c l c2 k) {f : Addr} {A : Around} {outer : List Env} {s : Shared} {H : Hp} {E : XK} (hr : Room k (A.deeper (envOfC "law" (defScope (top 41)) s.heap.objs.size f (.ref (cd 34))))) :
    SSs (cxOf (L2.CX P w) P w K mg base ["script", "dice", "due", "fresh", "value", "closed", "bits", "term", "other", "deep", "row", "body", "by", "out", "k", "one", "many"] "law" (defScope (top 41)) f (.ref (cd 34)) A outer s H E) g (fun cls d _ H => E cls d H) (defBody (top 41)) (b34 c l c2) :=
    by
  obtain ⟨k9, rfl, F2⟩ := Fs.told
  exact (ss_cons (ss_for (passes_of rfl) rfl (si_any hd.gK (se_call Fs.f22 hd.gK hr (takes_of rfl rfl rfl rfl) (by walk_at "gl") (sa_cons (se_var (i := 0) rfl (by walk_at "vv")) (sa_cons se_int sa_nil)))) (sg_name (i := 1) nd34 rfl (by walk_at "lo")) (ss_cons (ss_par rfl nd34 rfl rfl (by decide) rfl rfl (sa_cons (se_call Fs.f24 hd.gK hr (takes_of rfl rfl rfl rfl) (by walk_at "gl") (sa_cons (se_var (i := 1) rfl (by walk_at "vv")) (sa_cons se_int (sa_cons (se_lst sa_nil) sa_nil)))) (sa_cons (se_call Fs.f24 hd.gK hr (takes_of rfl rfl rfl rfl) (by walk_at "gl") (sa_cons (se_var (i := 1) rfl (by walk_at "vv")) (sa_cons se_int (sa_cons (se_lst sa_nil) sa_nil)))) sa_nil)) rfl)
      (ss_cons (ss_set nd34 rfl (by walk_at "lo") (se_call Fs.f26 hd.gK hr (takes_of rfl rfl rfl rfl) (by walk_at "gl") (sa_cons (se_var (i := 7) rfl (by walk_at "vv")) (sa_cons (se_lst sa_nil) sa_nil))))
      (ss_cons (ss_if (st_w (sw_or (st_cmp (opNe hd.gK hr.units) (se_call Fs.f1d1 hd.gK hr (takes_of rfl rfl rfl rfl) (by walk_at "gl") (sa_cons (se_var (i := 7) rfl (by walk_at "vv")) sa_nil)) (se_var (i := 2) rfl (by walk_at "vv"))) (sw_or (st_cmp (opNotN) (se_call Fs.f2d1 hd.gK hr (takes_of rfl rfl rfl rfl) (by walk_at "gl") (sa_cons (se_var (i := 2) rfl (by walk_at "vv")) sa_nil)) se_non) (sw_or (st_cmp (opNe hd.gK hr.units) (se_call Fs.f26 hd.gK hr (takes_of rfl rfl rfl rfl) (by walk_at "gl") (sa_cons (se_call Fs.f3 hd.gK hr (takes_of rfl rfl rfl rfl) (by walk_at "gl") (sa_cons (se_var (i := 2) rfl (by walk_at "vv")) sa_nil)) (sa_cons (se_lst sa_nil) sa_nil))) (se_var (i := 2) rfl (by walk_at "vv"))) (sw_or (st_cmp (opNe hd.gK hr.units) (se_call Fs.f8 hd.gK hr (takes_of rfl rfl rfl rfl) (by walk_at "gl") (sa_cons (se_var (i := 7) rfl (by walk_at "vv")) sa_nil)) (se_call Fs.f3 hd.gK hr (takes_of rfl rfl rfl rfl) (by walk_at "gl") (sa_cons (se_var (i := 2) rfl (by walk_at "vv")) sa_nil))) (sw_or1 (st_cmp (opNe hd.gK hr.units) (se_callTy (callLst hd.gK rfl) (by walk_at "gl") hd.m_list (by rfl) (sa_cons (se_call Fs.f4 hd.gK hr (takes_of rfl rfl rfl rfl) (by walk_at "gl") (sa_cons (se_var (i := 2) rfl (by walk_at "vv")) sa_nil)) sa_nil)) (se_callTy (callLst hd.gK rfl) (by walk_at "gl") hd.m_list (by rfl) (sa_cons (se_call Fs.f0 hd.gK hr (takes_of rfl rfl rfl rfl) (by walk_at "gl") (sa_cons (se_var (i := 7) rfl (by walk_at "vv")) sa_nil)) sa_nil))))))))) (ss_cons (ss_ret se_bl)
      ss_nil) ss_nil)
      (ss_cons (ss_set nd34 rfl (by walk_at "lo") (se_call Fs.f29 hd.gK hr (takes_of rfl rfl rfl rfl) (by walk_at "gl") (sa_cons (se_var (i := 7) rfl (by walk_at "vv")) (sa_cons se_dnew sa_nil))))
      (ss_cons (ss_if (st_w (sw_or (st_not (st_tru hd.gK (se_call Fs.f7 hd.gK hr (takes_of rfl rfl rfl rfl) (by walk_at "gl") (sa_cons (se_var (i := 7) rfl (by walk_at "vv")) (sa_cons (se_var (i := 3) rfl (by walk_at "vv")) sa_nil))))) (sw_or1 (st_cmp (opNe hd.gK hr.units) (se_call Fs.f7 hd.gK hr (takes_of rfl rfl rfl rfl) (by walk_at "gl") (sa_cons (se_var (i := 7) rfl (by walk_at "vv")) (sa_cons (se_var (i := 8) rfl (by walk_at "vv")) sa_nil))) (se_cmp (opEq hd.gK hr.units) (se_var (i := 2) rfl (by walk_at "vv")) (se_call Fs.f26 hd.gK hr (takes_of rfl rfl rfl rfl) (by walk_at "gl") (sa_cons (se_var (i := 8) rfl (by walk_at "vv")) (sa_cons (se_lst sa_nil) sa_nil)))))))) (ss_cons (ss_ret se_bl)
      ss_nil) ss_nil)
      (ss_cons (ss_par rfl nd34 rfl rfl (by decide) rfl rfl (sa_cons se_int (sa_cons (se_lst (sa_cons (se_tup (sa_cons (se_var (i := 2) rfl (by walk_at "vv")) (sa_cons se_int sa_nil))) sa_nil)) sa_nil)) rfl)
      (ss_cons (ss_while 100000 (passes_of rfl) (st_cmp (opNe hd.gK hr.units) (se_var (i := 10) rfl (by walk_at "vv")) (se_lst sa_nil)) (ss_cons (ss_set nd34 rfl (by walk_at "lo") (se_callB (callMax2 rfl) (by walk_at "gl") hd.m_max (by rfl) (sa_cons (se_bin (opAdd hd.gK) (se_lst (sa_cons (se_var (i := 9) rfl (by walk_at "vv")) sa_nil)) (se_lc rfl nd34 (si_any hd.gK (se_var (i := 10) rfl (by walk_at "vv"))) (blkOk_by (own := [("one", 15), ("many", 16)]) (by walk_at "blk")) (fun _ _ _ _ _ => (sgc_tup hd.gK rfl (sgc_cons (sgc_name (i := 15) nd34 rfl (by decide) (by walk_at "lo")) (sgc_cons (sgc_name (i := 16) nd34 rfl (by decide) (by walk_at "lo")) sgc_nil)))) (fun _ _ _ _ _ => sts_nil) (fun _ _ _ _ _ => (se_var (i := 16) rfl (by walk_at "vv"))))) sa_nil)))
      (ss_cons (ss_set nd34 rfl (by walk_at "lo") (se_callB (callSum rfl) (by walk_at "gl") hd.m_sum (by rfl) (sa_cons (se_lc rfl nd34 (si_any hd.gK (se_var (i := 10) rfl (by walk_at "vv"))) (blkOk_by (own := [("one", 15), ("many", 16)]) (by walk_at "blk")) (fun _ _ _ _ _ => (sgc_tup hd.gK rfl (sgc_cons (sgc_name (i := 15) nd34 rfl (by decide) (by walk_at "lo")) (sgc_cons (sgc_name (i := 16) nd34 rfl (by decide) (by walk_at "lo")) sgc_nil)))) (fun _ _ _ _ _ => (sts_one (st_tru hd.gK (se_is1 "tuple" hd.gK (by decide) (by walk_at "gl") hd.m_isinstance (by walk_at "gl") hd.m_tuple (by rfl) (by decide) (se_var (i := 15) rfl (by walk_at "vv")))))) (fun _ _ _ _ _ => (se_if (st_cmp (opEq hd.gK hr.units) (se_ix hd.gK (se_var (i := 15) rfl (by walk_at "vv")) se_int) (se_str [102, 117, 110])) (se_lst (sa_cons (se_tup (sa_cons (se_ix hd.gK (se_var (i := 15) rfl (by walk_at "vv")) se_int) (sa_cons (se_bin (opAdd hd.gK) (se_var (i := 16) rfl (by walk_at "vv")) se_int) sa_nil))) sa_nil)) (se_if (st_cmp (opEq hd.gK hr.units) (se_ix hd.gK (se_var (i := 15) rfl (by walk_at "vv")) se_int) (se_str [97, 116])) (se_lst (sa_cons (se_tup (sa_cons (se_ix hd.gK (se_var (i := 15) rfl (by walk_at "vv")) se_int) (sa_cons (se_var (i := 16) rfl (by walk_at "vv")) sa_nil))) (sa_cons (se_tup (sa_cons (se_ix hd.gK (se_var (i := 15) rfl (by walk_at "vv")) se_int) (sa_cons (se_var (i := 16) rfl (by walk_at "vv")) sa_nil))) sa_nil))) (se_lst sa_nil))))) (sa_cons (se_lst sa_nil) sa_nil))))
      ss_nil)))
      (ss_cons (ss_if (st_w (sw_or (st_cmp (opNe hd.gK hr.units) (se_call Fs.f18 hd.gK hr (takes_of rfl rfl rfl rfl) (by walk_at "gl") (sa_cons (se_var (i := 7) rfl (by walk_at "vv")) sa_nil)) (se_var (i := 9) rfl (by walk_at "vv"))) (sw_or (st_cmp (opNe hd.gK hr.units) (se_call Fs.f13 hd.gK hr (takes_of rfl rfl rfl rfl) (by walk_at "gl") (sa_cons (se_var (i := 2) rfl (by walk_at "vv")) sa_nil)) (se_call Fs.f30 hd.gK hr (takes_of rfl rfl rfl rfl) (by walk_at "gl") (sa_cons (se_var (i := 2) rfl (by walk_at "vv")) sa_nil))) (sw_or1 (st_cmp (opNe hd.gK hr.units) (se_call Fs.f12 hd.gK hr (takes_of rfl rfl rfl rfl) (by walk_at "gl") (sa_cons (se_var (i := 2) rfl (by walk_at "vv")) sa_nil)) (se_if (st_w (sw_and (st_tru hd.gK (se_is1 "tuple" hd.gK (by decide) (by walk_at "gl") hd.m_isinstance (by walk_at "gl") hd.m_tuple (by rfl) (by decide) (se_var (i := 2) rfl (by walk_at "vv")))) (sw_and1 (st_cmp (opEq hd.gK hr.units) (se_ix hd.gK (se_var (i := 2) rfl (by walk_at "vv")) se_int) (se_str [97, 116]))))) (se_sl hd.gK (se_call Fs.f30 hd.gK hr (takes_of rfl rfl rfl rfl) (by walk_at "gl") (sa_cons (se_var (i := 2) rfl (by walk_at "vv")) sa_nil)) (so_so se_int) (so_so se_neg)) (se_call Fs.f30 hd.gK hr (takes_of rfl rfl rfl rfl) (by walk_at "gl") (sa_cons (se_var (i := 2) rfl (by walk_at "vv")) sa_nil)))))))) (ss_cons (ss_ret se_bl)
      ss_nil) ss_nil)
      (ss_cons (ss_par3 rfl nd34 rfl rfl rfl (by decide) (by decide) (by decide) rfl rfl rfl (sa_cons (se_call Fs.f26 hd.gK hr (takes_of rfl rfl rfl rfl) (by walk_at "gl") (sa_cons (se_var (i := 7) rfl (by walk_at "vv")) (sa_cons (se_lst (sa_cons (se_str [120]) (sa_cons (se_str [121]) (sa_cons (se_str [122]) sa_nil)))) sa_nil))) (sa_cons (se_call Fs.f21 hd.gK hr (takes_of rfl rfl rfl rfl) (by walk_at "gl") (sa_cons (se_var (i := 1) rfl (by walk_at "vv")) (sa_cons se_int sa_nil))) (sa_cons (se_call Fs.f21 hd.gK hr (takes_of rfl rfl rfl rfl) (by walk_at "gl") (sa_cons (se_var (i := 1) rfl (by walk_at "vv")) (sa_cons se_int sa_nil))) sa_nil))) rfl)
      (ss_cons (ss_set nd34 rfl (by walk_at "lo") (se_call Fs.f26 hd.gK hr (takes_of rfl rfl rfl rfl) (by walk_at "gl") (sa_cons (se_var (i := 8) rfl (by walk_at "vv")) (sa_cons (se_lst (sa_cons (se_str [121]) (sa_cons (se_str [122]) sa_nil))) sa_nil))))
      (ss_cons (ss_if (st_w (sw_or (st_cmp (opNe hd.gK hr.units) (se_call Fs.f9 hd.gK hr (takes_of rfl rfl rfl rfl) (by walk_at "gl") (sa_cons (se_var (i := 11) rfl (by walk_at "vv")) (sa_cons (se_var (i := 12) rfl (by walk_at "vv")) (sa_cons (se_var (i := 13) rfl (by walk_at "vv")) sa_nil)))) (se_call Fs.f27 hd.gK hr (takes_of rfl rfl rfl rfl) (by walk_at "gl") (sa_cons (se_var (i := 11) rfl (by walk_at "vv")) (sa_cons (se_var (i := 12) rfl (by walk_at "vv")) (sa_cons (se_var (i := 13) rfl (by walk_at "vv")) sa_nil))))) (sw_or (st_cmp (opNe hd.gK hr.units) (se_call Fs.f10 hd.gK hr (takes_of rfl rfl rfl rfl) (by walk_at "gl") (sa_cons (se_var (i := 11) rfl (by walk_at "vv")) (sa_cons (se_var (i := 13) rfl (by walk_at "vv")) (sa_cons (se_var (i := 4) rfl (by walk_at "vv")) sa_nil)))) (se_call Fs.f28 hd.gK hr (takes_of rfl rfl rfl rfl) (by walk_at "gl") (sa_cons (se_var (i := 11) rfl (by walk_at "vv")) (sa_cons (se_var (i := 13) rfl (by walk_at "vv")) (sa_cons (se_var (i := 4) rfl (by walk_at "vv")) sa_nil))))) (sw_or1 (st_cmp (opNe hd.gK hr.units) (se_call Fs.f14 hd.gK hr (takes_of rfl rfl rfl rfl) (by walk_at "gl") (sa_cons (se_var (i := 11) rfl (by walk_at "vv")) (sa_cons (se_var (i := 13) rfl (by walk_at "vv")) sa_nil))) (se_call Fs.f32 hd.gK hr (takes_of rfl rfl rfl rfl) (by walk_at "gl") (sa_cons (se_var (i := 11) rfl (by walk_at "vv")) (sa_cons (se_var (i := 13) rfl (by walk_at "vv")) sa_nil)))))))) (ss_cons (ss_ret se_bl)
      ss_nil) ss_nil)
      (ss_cons (ss_if (st_w (sw_or (st_cmp (opNe hd.gK hr.units) (se_call Fs.f11 hd.gK hr (takes_of rfl rfl rfl rfl) (by walk_at "gl") (sa_cons (se_tup (sa_cons (se_str [97, 116]) (sa_cons (se_tup (sa_cons (se_str [102, 117, 110]) (sa_cons (se_var (i := 11) rfl (by walk_at "vv")) sa_nil))) (sa_cons (se_var (i := 4) rfl (by walk_at "vv")) sa_nil)))) sa_nil)) (se_call Fs.f28 hd.gK hr (takes_of rfl rfl rfl rfl) (by walk_at "gl") (sa_cons (se_var (i := 11) rfl (by walk_at "vv")) (sa_cons se_int (sa_cons (se_var (i := 4) rfl (by walk_at "vv")) sa_nil))))) (sw_or1 (st_cmp (opNe hd.gK hr.units) (se_call Fs.f10 hd.gK hr (takes_of rfl rfl rfl rfl) (by walk_at "gl") (sa_cons (se_call Fs.f9d1 hd.gK hr (takes_of rfl rfl rfl rfl) (by walk_at "gl") (sa_cons (se_var (i := 11) rfl (by walk_at "vv")) (sa_cons se_int sa_nil))) (sa_cons se_int (sa_cons (se_var (i := 4) rfl (by walk_at "vv")) sa_nil)))) (se_var (i := 11) rfl (by walk_at "vv")))))) (ss_cons (ss_ret se_bl)
      ss_nil) ss_nil)
      (ss_cons (ss_set nd34 rfl (by walk_at "lo") (se_call Fs.f26 hd.gK hr (takes_of rfl rfl rfl rfl) (by walk_at "gl") (sa_cons (se_call Fs.f25 hd.gK hr (takes_of rfl rfl rfl rfl) (by walk_at "gl") (sa_cons (se_var (i := 1) rfl (by walk_at "vv")) (sa_cons se_int (sa_cons (se_lst sa_nil) sa_nil)))) (sa_cons (se_lst sa_nil) sa_nil))))
      (ss_cons (ss_set nd34 rfl (by walk_at "lo") (se_call Fs.f15 hd.gK hr (takes_of rfl rfl rfl rfl) (by walk_at "gl") (sa_cons (se_var (i := 5) rfl (by walk_at "vv")) sa_nil)))
      (ss_cons (ss_if (st_w (sw_or (st_cmp (opNe hd.gK hr.units) (se_var (i := 6) rfl (by walk_at "vv")) (se_call Fs.f31 hd.gK hr (takes_of rfl rfl rfl rfl) (by walk_at "gl") (sa_cons (se_var (i := 5) rfl (by walk_at "vv")) sa_nil))) (sw_or (st_cmp (opNe hd.gK hr.units) (se_call Fs.f16 hd.gK hr (takes_of rfl rfl rfl rfl) (by walk_at "gl") (sa_cons (se_var (i := 6) rfl (by walk_at "vv")) sa_nil)) (se_var (i := 5) rfl (by walk_at "vv"))) (sw_or1 (st_cmp (opNe hd.gK hr.units) (se_lc rfl nd34 (si_rg1 (by walk_at "gl") hd.m_range (sa_cons (se_callB (callLen hd.gK) (by walk_at "gl") hd.m_len (by rfl) (sa_cons (se_var (i := 6) rfl (by walk_at "vv")) sa_nil)) sa_nil)) (blkOk_by (own := [("k", 14)]) (by walk_at "blk")) (fun _ _ _ _ _ => (sgc_name (i := 14) nd34 rfl (by decide) (by walk_at "lo"))) (fun _ _ _ _ _ => (sts_one (st_cmp (opNe hd.gK hr.units) (se_told (k := k9) (ret := [80, 108, 97, 99, 101, 69, 114, 114, 111, 114]) hd.gK (by walk_at "gl") hd.u__law_told rfl sc23 rfl (by walk_at "vv") rfl hd.x_PlaceError.gC hd.t_PlaceError hd.tb34 rfl rfl hd.hT34 hd.hu34 hr (LamX.lamS_by (by rfl)) rfl (fun _ _ _ _ _ => rfl) (fun _ _ _ _ _ _ _ hr9 => (se_call F2.f16 hd.gK hr9 lamCx_takes (by walk_at "gl") (sa_cons (se_sl hd.gK (se_var (i := 6) rfl (by walk_at "vv")) so_no (so_so (se_var (i := 14) rfl (by walk_at "vv")))) sa_nil)))) (se_str [80, 108, 97, 99, 101, 69, 114, 114, 111, 114])))) (fun _ _ _ _ _ => (se_var (i := 14) rfl (by walk_at "vv")))) (se_lst sa_nil)))))) (ss_cons (ss_ret se_bl)
      ss_nil) ss_nil)
      (ss_cons (ss_if (st_w (sw_or (st_cmp (opNe hd.gK hr.units) (se_call Fs.f17 hd.gK hr (takes_of rfl rfl rfl rfl) (by walk_at "gl") (sa_cons (se_bin (opAdd hd.gK) (se_str [49]) (se_var (i := 6) rfl (by walk_at "vv"))) (sa_cons se_int sa_nil))) (se_tup (sa_cons (se_var (i := 5) rfl (by walk_at "vv")) (sa_cons (se_bin (opAdd hd.gK) (se_callB (callLen hd.gK) (by walk_at "gl") hd.m_len (by rfl) (sa_cons (se_var (i := 6) rfl (by walk_at "vv")) sa_nil)) se_int) sa_nil)))) (sw_or1 (st_cmp (opNe hd.gK hr.units) (se_call Fs.f6 hd.gK hr (takes_of rfl rfl rfl rfl) (by walk_at "gl") (sa_cons (se_sl hd.gK (se_tup (sa_cons (se_str [97]) (sa_cons (se_str [98]) (sa_cons (se_str [99]) sa_nil)))) so_no (so_so (se_var (i := 13) rfl (by walk_at "vv")))) sa_nil)) (se_ix hd.gK (se_str [97, 98, 99, 100]) (se_var (i := 13) rfl (by walk_at "vv"))))))) (ss_cons (ss_ret se_bl)
      ss_nil) ss_nil)
      ss_nil)))))))))))))))))
      (ss_cons (ss_ret (se_call0 Fs.f33 hd.gK hr (takes_of rfl rfl rfl rfl) (by walk_at "gl")))
      ss_nil))
theorem l0 (hd : Hd K mg base g C_PlaceError cd tb) (Fs : FsF P w K mg base g c k) : LamOk P w K mg base g k 0 (fun S => lam0 c [] S) := by
  unfold LamOk
  rw [hd.lt 0]
  refine ⟨⟨rfl, rfl, rfl, by decide +kernel⟩, fun _ _ _ => rfl, fun A outer s H E f c' hr tk => ?_⟩
  have h : SE (lamX P w K mg base (ltK 0) f c' A outer s H E) g (fun cls d _ H => E cls d H) (ltK 0).body (lam0 c) := (se_call Fs.f2d1 hd.gK hr tk (by walk_at "gl") (sa_cons (se_tup (sa_cons (se_str [112, 108, 97, 99, 101]) (sa_cons se_int sa_nil))) sa_nil))
  exact h
theorem l1 (hd : Hd K mg base g C_PlaceError cd tb) (Fs : FsF P w K mg base g c k) : LamOk P w K mg base g k 1 (fun S => lam1 c [] S) := by
  unfold LamOk
  rw [hd.lt 1]
  refine ⟨⟨rfl, rfl, rfl, by decide +kernel⟩, fun _ _ _ => rfl, fun A outer s H E f c' hr tk => ?_⟩
  have h : SE (lamX P w K mg base (ltK 1) f c' A outer s H E) g (fun cls d _ H => E cls d H) (ltK 1).body (lam1 c) := (se_call Fs.f2d1 hd.gK hr tk (by walk_at "gl") (sa_cons (se_tup (sa_cons (se_str [102, 117, 110]) (sa_cons (se_tup (sa_cons (se_str [112, 108, 97, 99, 101]) (sa_cons se_int sa_nil))) sa_nil))) sa_nil))
  exact h
theorem l2 (hd : Hd K mg base g C_PlaceError cd tb) (Fs : FsF P w K mg base g c k) : LamOk P w K mg base g k 2 (fun S => lam2 c [] S) := by
  unfold LamOk
  rw [hd.lt 2]
  refine ⟨⟨rfl, rfl, rfl, by decide +kernel⟩, fun _ _ _ => rfl, fun A outer s H E f c' hr tk => ?_⟩
  have h : SE (lamX P w K mg base (ltK 2) f c' A outer s H E) g (fun cls d _ H => E cls d H) (ltK 2).body (lam2 c) := (se_call Fs.f2d1 hd.gK hr tk (by walk_at "gl") (sa_cons (se_tup (sa_cons (se_str [111, 100, 100]) (sa_cons (se_str [120]) sa_nil))) sa_nil))
  exact h
theorem l3 (hd : Hd K mg base g C_PlaceError cd tb) (Fs : FsF P w K mg base g c k) : LamOk P w K mg base g k 3 (fun S => lam3 c [] S) := by
  unfold LamOk
  rw [hd.lt 3]
  refine ⟨⟨rfl, rfl, rfl, by decide +kernel⟩, fun _ _ _ => rfl, fun A outer s H E f c' hr tk => ?_⟩
  have h : SE (lamX P w K mg base (ltK 3) f c' A outer s H E) g (fun cls d _ H => E cls d H) (ltK 3).body (lam3 c) := (se_call Fs.f3 hd.gK hr tk (by walk_at "gl") (sa_cons (se_tup (sa_cons (se_str [112, 108, 97, 99, 101]) (sa_cons se_int sa_nil))) sa_nil))
  exact h
theorem l4 (hd : Hd K mg base g C_PlaceError cd tb) (Fs : FsF P w K mg base g c k) : LamOk P w K mg base g k 4 (fun S => lam4 c [] S) := by
  unfold LamOk
  rw [hd.lt 4]
  refine ⟨⟨rfl, rfl, rfl, by decide +kernel⟩, fun _ _ _ => rfl, fun A outer s H E f c' hr tk => ?_⟩
  have h : SE (lamX P w K mg base (ltK 4) f c' A outer s H E) g (fun cls d _ H => E cls d H) (ltK 4).body (lam4 c) := (se_call Fs.f9d1 hd.gK hr tk (by walk_at "gl") (sa_cons (se_tup (sa_cons (se_str [112, 108, 97, 99, 101]) (sa_cons se_int sa_nil))) (sa_cons se_neg sa_nil)))
  exact h
theorem l5 (hd : Hd K mg base g C_PlaceError cd tb) (Fs : FsF P w K mg base g c k) : LamOk P w K mg base g k 5 (fun S => lam5 c [] S) := by
  unfold LamOk
  rw [hd.lt 5]
  refine ⟨⟨rfl, rfl, rfl, by decide +kernel⟩, fun _ _ _ => rfl, fun A outer s H E f c' hr tk => ?_⟩
  have h : SE (lamX P w K mg base (ltK 5) f c' A outer s H E) g (fun cls d _ H => E cls d H) (ltK 5).body (lam5 c) := (se_call Fs.f11 hd.gK hr tk (by walk_at "gl") (sa_cons (se_str [120]) sa_nil))
  exact h
theorem l6 (hd : Hd K mg base g C_PlaceError cd tb) (Fs : FsF P w K mg base g c k) : LamOk P w K mg base g k 6 (fun S => lam6 c [] S) := by
  unfold LamOk
  rw [hd.lt 6]
  refine ⟨⟨rfl, rfl, rfl, by decide +kernel⟩, fun _ _ _ => rfl, fun A outer s H E f c' hr tk => ?_⟩
  have h : SE (lamX P w K mg base (ltK 6) f c' A outer s H E) g (fun cls d _ H => E cls d H) (ltK 6).body (lam6 c) := (se_call Fs.f11 hd.gK hr tk (by walk_at "gl") (sa_cons (se_tup (sa_cons (se_str [97, 116]) (sa_cons (se_str [120]) (sa_cons (se_str [121]) sa_nil)))) sa_nil))
  exact h
theorem l7 (hd : Hd K mg base g C_PlaceError cd tb) (Fs : FsF P w K mg base g c k) : LamOk P w K mg base g k 7 (fun S => lam7 c [] S) := by
  unfold LamOk
  rw [hd.lt 7]
  refine ⟨⟨rfl, rfl, rfl, by decide +kernel⟩, fun _ _ _ => rfl, fun A outer s H E f c' hr tk => ?_⟩
  have h : SE (lamX P w K mg base (ltK 7) f c' A outer s H E) g (fun cls d _ H => E cls d H) (ltK 7).body (lam7 c) := (se_call Fs.f15 hd.gK hr tk (by walk_at "gl") (sa_cons (se_str [120]) sa_nil))
  exact h
theorem l8 (hd : Hd K mg base g C_PlaceError cd tb) (Fs : FsF P w K mg base g c k) : LamOk P w K mg base g k 8 (fun S => lam8 c [] S) := by
  unfold LamOk
  rw [hd.lt 8]
  refine ⟨⟨rfl, rfl, rfl, by decide +kernel⟩, fun _ _ _ => rfl, fun A outer s H E f c' hr tk => ?_⟩
  have h : SE (lamX P w K mg base (ltK 8) f c' A outer s H E) g (fun cls d _ H => E cls d H) (ltK 8).body (lam8 c) := (se_call Fs.f15 hd.gK hr tk (by walk_at "gl") (sa_cons (se_tup (sa_cons (se_str [102, 117, 110]) (sa_cons se_int sa_nil))) sa_nil))
  exact h
theorem l9 (hd : Hd K mg base g C_PlaceError cd tb) (Fs : FsF P w K mg base g c k) : LamOk P w K mg base g k 9 (fun S => lam9 c [] S) := by
  unfold LamOk
  rw [hd.lt 9]
  refine ⟨⟨rfl, rfl, rfl, by decide +kernel⟩, fun _ _ _ => rfl, fun A outer s H E f c' hr tk => ?_⟩
  have h : SE (lamX P w K mg base (ltK 9) f c' A outer s H E) g (fun cls d _ H => E cls d H) (ltK 9).body (lam9 c) := (se_call Fs.f16 hd.gK hr tk (by walk_at "gl") (sa_cons (se_str []) sa_nil))
  exact h
theorem l10 (hd : Hd K mg base g C_PlaceError cd tb) (Fs : FsF P w K mg base g c k) : LamOk P w K mg base g k 10 (fun S => lam10 c [] S) := by
  unfold LamOk
  rw [hd.lt 10]
  refine ⟨⟨rfl, rfl, rfl, by decide +kernel⟩, fun _ _ _ => rfl, fun A outer s H E f c' hr tk => ?_⟩
  have h : SE (lamX P w K mg base (ltK 10) f c' A outer s H E) g (fun cls d _ H => E cls d H) (ltK 10).body (lam10 c) := (se_call Fs.f16 hd.gK hr tk (by walk_at "gl") (sa_cons (se_str [48, 48, 49]) sa_nil))
  exact h
theorem l11 (hd : Hd K mg base g C_PlaceError cd tb) (Fs : FsF P w K mg base g c k) : LamOk P w K mg base g k 11 (fun S => lam11 c [] S) := by
  unfold LamOk
  rw [hd.lt 11]
  refine ⟨⟨rfl, rfl, rfl, by decide +kernel⟩, fun _ _ _ => rfl, fun A outer s H E f c' hr tk => ?_⟩
  have h : SE (lamX P w K mg base (ltK 11) f c' A outer s H E) g (fun cls d _ H => E cls d H) (ltK 11).body (lam11 c) := (se_call Fs.f16 hd.gK hr tk (by walk_at "gl") (sa_cons (se_str [48, 48, 49, 49, 48]) sa_nil))
  exact h
theorem l12 (hd : Hd K mg base g C_PlaceError cd tb) (Fs : FsF P w K mg base g c k) : LamOk P w K mg base g k 12 (fun S => lam12 c [] S) := by
  unfold LamOk
  rw [hd.lt 12]
  refine ⟨⟨rfl, rfl, rfl, by decide +kernel⟩, fun _ _ _ => rfl, fun A outer s H E f c' hr tk => ?_⟩
  have h : SE (lamX P w K mg base (ltK 12) f c' A outer s H E) g (fun cls d _ H => E cls d H) (ltK 12).body (lam12 c) := (se_call Fs.f16 hd.gK hr tk (by walk_at "gl") (sa_cons (se_str [48, 48, 49, 48, 48]) sa_nil))
  exact h
theorem l13 (hd : Hd K mg base g C_PlaceError cd tb) (Fs : FsF P w K mg base g c k) : LamOk P w K mg base g k 13 (fun S => lam13 c [] S) := by
  unfold LamOk
  rw [hd.lt 13]
  refine ⟨⟨rfl, rfl, rfl, by decide +kernel⟩, fun _ _ _ => rfl, fun A outer s H E f c' hr tk => ?_⟩
  have h : SE (lamX P w K mg base (ltK 13) f c' A outer s H E) g (fun cls d _ H => E cls d H) (ltK 13).body (lam13 c) := (se_call Fs.f16 hd.gK hr tk (by walk_at "gl") (sa_cons (se_str [48, 48, 50]) sa_nil))
  exact h
theorem l14 (hd : Hd K mg base g C_PlaceError cd tb) (Fs : FsF P w K mg base g c k) : LamOk P w K mg base g k 14 (fun S => lam14 c [] S) := by
  unfold LamOk
  rw [hd.lt 14]
  refine ⟨⟨rfl, rfl, rfl, by decide +kernel⟩, fun _ _ _ => rfl, fun A outer s H E f c' hr tk => ?_⟩
  have h : SE (lamX P w K mg base (ltK 14) f c' A outer s H E) g (fun cls d _ H => E cls d H) (ltK 14).body (lam14 c) := (se_call Fs.f16 hd.gK hr tk (by walk_at "gl") (sa_cons (se_str [48]) sa_nil))
  exact h
theorem lamAll (hd : Hd K mg base g C_PlaceError cd tb) (Fs : FsF P w K mg base g c k) : ∀ j fn, lamF c j = some fn → LamOk P w K mg base g k j fn := by
  intro j fn h
  match j, h with
  | 0, h => cases h; exact l0 hd Fs
  | 1, h => cases h; exact l1 hd Fs
  | 2, h => cases h; exact l2 hd Fs
  | 3, h => cases h; exact l3 hd Fs
  | 4, h => cases h; exact l4 hd Fs
  | 5, h => cases h; exact l5 hd Fs
  | 6, h => cases h; exact l6 hd Fs
  | 7, h => cases h; exact l7 hd Fs
  | 8, h => cases h; exact l8 hd Fs
  | 9, h => cases h; exact l9 hd Fs
  | 10, h => cases h; exact l10 hd Fs
  | 11, h => cases h; exact l11 hd Fs
  | 12, h => cases h; exact l12 hd Fs
  | 13, h => cases h; exact l13 hd Fs
  | 14, h => cases h; exact l14 hd Fs
  | n + 15, h => cases h
def bLaw (c : Oracle) (l : LamV) (c2 : Oracle) : SF := (sSeq (sFor (iOf (eCall c 22 2 [] (eCons (eVar 0) (eCons (eC (.int 1)) eNil)))) (tgN 1) (sSeq (sPar 7 8 (eCons (eCall c 24 3 [] (eCons (eVar 1) (eCons (eC (.int 4)) (eCons (eLst eNil) eNil)))) (eCons (eCall c 24 3 [] (eCons (eVar 1) (eCons (eC (.int 3)) (eCons (eLst eNil) eNil)))) eNil))) (sSeq (sAsg (eCall c 26 2 [] (eCons (eVar 7) (eCons (eLst eNil) eNil))) (tgN 2)) (sSeq (sIf (bOr (bCmp neP (eCall c 1 2 [(.tup [])] (eCons (eVar 7) eNil)) (eVar 2)) (bOr (bCmp notNP (eCall c 2 2 [(.int 0)] (eCons (eVar 2) eNil)) (eC .non)) (bOr (bCmp neP (eCall c 26 2 [] (eCons (eCall c 3 1 [] (eCons (eVar 2) eNil)) (eCons (eLst eNil) eNil))) (eVar 2)) (bOr (bCmp neP (eCall c 8 1 [] (eCons (eVar 7) eNil)) (eCall c 3 1 [] (eCons (eVar 2) eNil))) (bCmp neP (eCl lstP (eCons (eCall c 4 1 [] (eCons (eVar 2) eNil)) eNil)) (eCl lstP (eCons (eCall c 0 1 [] (eCons (eVar 7) eNil)) eNil))))))) (sSeq (sRet (eC (.bl false))) sNil) sNil) (sSeq (sAsg (eCall c 29 2 [] (eCons (eVar 7) (eCons eDn eNil))) (tgN 3)) (sSeq (sIf (bOr (bNot (bTru (eCall c 7 2 [] (eCons (eVar 7) (eCons (eVar 3) eNil))))) (bCmp neP (eCall c 7 2 [] (eCons (eVar 7) (eCons (eVar 8) eNil))) (eBin eqP (eVar 2) (eCall c 26 2 [] (eCons (eVar 8) (eCons (eLst eNil) eNil)))))) (sSeq (sRet (eC (.bl false))) sNil) sNil) (sSeq (sPar 9 10 (eCons (eC (.int 0)) (eCons (eLst (eCons (eTup (eCons (eVar 2) (eCons (eC (.int 0)) eNil))) eNil)) eNil))) (sSeq (whL (bCmp neP (eVar 10) (eLst eNil)) (sSeq (sAsg (eCl maxP2 (eCons (eBin addP (eLst (eCons (eVar 9) eNil)) (eLc (iOf (eVar 10)) (tgT 2 (tgCons (tgN 15) (tgCons (tgN 16) tgNil))) bYes (eVar 16) [15, 16])) eNil)) (tgN 9)) (sSeq (sAsg (eCl sumP (eCons (eLc (iOf (eVar 10)) (tgT 2 (tgCons (tgN 15) (tgCons (tgN 16) tgNil))) (bTru (eIs ["tuple"] (eVar 15))) (eIf (bCmp eqP (eBin ixP (eVar 15) (eC (.int 0))) (eC (.str [102, 117, 110]))) (eLst (eCons (eTup (eCons (eBin ixP (eVar 15) (eC (.int 1))) (eCons (eBin addP (eVar 16) (eC (.int 1))) eNil))) eNil)) (eIf (bCmp eqP (eBin ixP (eVar 15) (eC (.int 0))) (eC (.str [97, 116]))) (eLst (eCons (eTup (eCons (eBin ixP (eVar 15) (eC (.int 1))) (eCons (eVar 16) eNil))) (eCons (eTup (eCons (eBin ixP (eVar 15) (eC (.int 2))) (eCons (eVar 16) eNil))) eNil))) (eLst eNil))) [15, 16]) (eCons (eLst eNil) eNil))) (tgN 10)) sNil)) 100000) (sSeq (sIf (bOr (bCmp neP (eCall c 18 1 [] (eCons (eVar 7) eNil)) (eVar 9)) (bOr (bCmp neP (eCall c 13 1 [] (eCons (eVar 2) eNil)) (eCall c 30 1 [] (eCons (eVar 2) eNil))) (bCmp neP (eCall c 12 1 [] (eCons (eVar 2) eNil)) (eIf (bAnd (bTru (eIs ["tuple"] (eVar 2))) (bCmp eqP (eBin ixP (eVar 2) (eC (.int 0))) (eC (.str [97, 116])))) (eSl (eCall c 30 1 [] (eCons (eVar 2) eNil)) (oSo (eC (.int 1))) (oSo (eC (.int (-1))))) (eCall c 30 1 [] (eCons (eVar 2) eNil)))))) (sSeq (sRet (eC (.bl false))) sNil) sNil) (sSeq (sPar3 11 12 13 (eCons (eCall c 26 2 [] (eCons (eVar 7) (eCons (eLst (eCons (eC (.str [120])) (eCons (eC (.str [121])) (eCons (eC (.str [122])) eNil)))) eNil))) (eCons (eCall c 21 2 [] (eCons (eVar 1) (eCons (eC (.int 4)) eNil))) (eCons (eCall c 21 2 [] (eCons (eVar 1) (eCons (eC (.int 3)) eNil))) eNil)))) (sSeq (sAsg (eCall c 26 2 [] (eCons (eVar 8) (eCons (eLst (eCons (eC (.str [121])) (eCons (eC (.str [122])) eNil))) eNil))) (tgN 4)) (sSeq (sIf (bOr (bCmp neP (eCall c 9 3 [] (eCons (eVar 11) (eCons (eVar 12) (eCons (eVar 13) eNil)))) (eCall c 27 3 [] (eCons (eVar 11) (eCons (eVar 12) (eCons (eVar 13) eNil))))) (bOr (bCmp neP (eCall c 10 3 [] (eCons (eVar 11) (eCons (eVar 13) (eCons (eVar 4) eNil)))) (eCall c 28 3 [] (eCons (eVar 11) (eCons (eVar 13) (eCons (eVar 4) eNil))))) (bCmp neP (eCall c 14 2 [] (eCons (eVar 11) (eCons (eVar 13) eNil))) (eCall c 32 2 [] (eCons (eVar 11) (eCons (eVar 13) eNil)))))) (sSeq (sRet (eC (.bl false))) sNil) sNil) (sSeq (sIf (bOr (bCmp neP (eCall c 11 1 [] (eCons (eTup (eCons (eC (.str [97, 116])) (eCons (eTup (eCons (eC (.str [102, 117, 110])) (eCons (eVar 11) eNil))) (eCons (eVar 4) eNil)))) eNil)) (eCall c 28 3 [] (eCons (eVar 11) (eCons (eC (.int 0)) (eCons (eVar 4) eNil))))) (bCmp neP (eCall c 10 3 [] (eCons (eCall c 9 3 [(.int 0)] (eCons (eVar 11) (eCons (eC (.int 1)) eNil))) (eCons (eC (.int 0)) (eCons (eVar 4) eNil)))) (eVar 11))) (sSeq (sRet (eC (.bl false))) sNil) sNil) (sSeq (sAsg (eCall c 26 2 [] (eCons (eCall c 25 3 [] (eCons (eVar 1) (eCons (eC (.int 4)) (eCons (eLst eNil) eNil)))) (eCons (eLst eNil) eNil))) (tgN 5)) (sSeq (sAsg (eCall c 15 1 [] (eCons (eVar 5) eNil)) (tgN 6)) (sSeq (sIf (bOr (bCmp neP (eVar 6) (eCall c 31 1 [] (eCons (eVar 5) eNil))) (bOr (bCmp neP (eCall c 16 1 [] (eCons (eVar 6) eNil)) (eVar 5)) (bCmp neP (eLc (iRg1 (eCons (eCl lenP (eCons (eVar 6) eNil)) eNil)) (tgN 14) (bCmp neP (eTold (eCall c2 16 1 [] (eCons (eSl (eVar 6) oNo (oSo (eVar 14))) eNil)) catch_PlaceError [80, 108, 97, 99, 101, 69, 114, 114, 111, 114]) (eC (.str [80, 108, 97, 99, 101, 69, 114, 114, 111, 114]))) (eVar 14) [14]) (eLst eNil)))) (sSeq (sRet (eC (.bl false))) sNil) sNil) (sSeq (sIf (bOr (bCmp neP (eCall c 17 2 [] (eCons (eBin addP (eC (.str [49])) (eVar 6)) (eCons (eC (.int 1)) eNil))) (eTup (eCons (eVar 5) (eCons (eBin addP (eCl lenP (eCons (eVar 6) eNil)) (eC (.int 1))) eNil)))) (bCmp neP (eCall c 6 1 [] (eCons (eSl (eTup (eCons (eC (.str [97])) (eCons (eC (.str [98])) (eCons (eC (.str [99])) eNil)))) oNo (oSo (eVar 13))) eNil)) (eBin ixP (eC (.str [97, 98, 99, 100])) (eVar 13)))) (sSeq (sRet (eC (.bl false))) sNil) sNil) sNil))))))))))))))))) sNil)
def eLaw (c : Oracle) (l : LamV) (c2 : Oracle) : EF := (eCall c 33 0 [] eNil)
theorem dLaw (hd : Hd K mg base g C_PlaceError cd tb) (Fs : Fs P w K mg base g c l c2 k) {f : Addr} {A : Around} {outer : List Env} {s : Shared} {H : Hp} {E : XK} (hr : Room k (A.deeper (envOfC "law" (defScope (top 41)) s.heap.objs.size f (.ref (cd 34))))) :
    PSs (cxOf (L2.CX P w) P w K mg base ["script", "dice", "due", "fresh", "value", "closed", "bits", "term", "other", "deep", "row", "body", "by", "out", "k", "one", "many"] "law" (defScope (top 41)) f (.ref (cd 34)) A outer s H E) (defBody (top 41)) (tFin g (fun cls d _ H => E cls d H) (bLaw c l c2) (eLaw c l c2)) :=
    by
  obtain ⟨k9, rfl, F2⟩ := Fs.told
  exact (ss_finC (ss_for (passes_of rfl) rfl (si_any hd.gK (se_call Fs.f22 hd.gK hr (takes_of rfl rfl rfl rfl) (by walk_at "gl") (sa_cons (se_var (i := 0) rfl (by walk_at "vv")) (sa_cons se_int sa_nil)))) (sg_name (i := 1) nd34 rfl (by walk_at "lo")) (ss_cons (ss_par rfl nd34 rfl rfl (by decide) rfl rfl (sa_cons (se_call Fs.f24 hd.gK hr (takes_of rfl rfl rfl rfl) (by walk_at "gl") (sa_cons (se_var (i := 1) rfl (by walk_at "vv")) (sa_cons se_int (sa_cons (se_lst sa_nil) sa_nil)))) (sa_cons (se_call Fs.f24 hd.gK hr (takes_of rfl rfl rfl rfl) (by walk_at "gl") (sa_cons (se_var (i := 1) rfl (by walk_at "vv")) (sa_cons se_int (sa_cons (se_lst sa_nil) sa_nil)))) sa_nil)) rfl)
      (ss_cons (ss_set nd34 rfl (by walk_at "lo") (se_call Fs.f26 hd.gK hr (takes_of rfl rfl rfl rfl) (by walk_at "gl") (sa_cons (se_var (i := 7) rfl (by walk_at "vv")) (sa_cons (se_lst sa_nil) sa_nil))))
      (ss_cons (ss_if (st_w (sw_or (st_cmp (opNe hd.gK hr.units) (se_call Fs.f1d1 hd.gK hr (takes_of rfl rfl rfl rfl) (by walk_at "gl") (sa_cons (se_var (i := 7) rfl (by walk_at "vv")) sa_nil)) (se_var (i := 2) rfl (by walk_at "vv"))) (sw_or (st_cmp (opNotN) (se_call Fs.f2d1 hd.gK hr (takes_of rfl rfl rfl rfl) (by walk_at "gl") (sa_cons (se_var (i := 2) rfl (by walk_at "vv")) sa_nil)) se_non) (sw_or (st_cmp (opNe hd.gK hr.units) (se_call Fs.f26 hd.gK hr (takes_of rfl rfl rfl rfl) (by walk_at "gl") (sa_cons (se_call Fs.f3 hd.gK hr (takes_of rfl rfl rfl rfl) (by walk_at "gl") (sa_cons (se_var (i := 2) rfl (by walk_at "vv")) sa_nil)) (sa_cons (se_lst sa_nil) sa_nil))) (se_var (i := 2) rfl (by walk_at "vv"))) (sw_or (st_cmp (opNe hd.gK hr.units) (se_call Fs.f8 hd.gK hr (takes_of rfl rfl rfl rfl) (by walk_at "gl") (sa_cons (se_var (i := 7) rfl (by walk_at "vv")) sa_nil)) (se_call Fs.f3 hd.gK hr (takes_of rfl rfl rfl rfl) (by walk_at "gl") (sa_cons (se_var (i := 2) rfl (by walk_at "vv")) sa_nil))) (sw_or1 (st_cmp (opNe hd.gK hr.units) (se_callTy (callLst hd.gK rfl) (by walk_at "gl") hd.m_list (by rfl) (sa_cons (se_call Fs.f4 hd.gK hr (takes_of rfl rfl rfl rfl) (by walk_at "gl") (sa_cons (se_var (i := 2) rfl (by walk_at "vv")) sa_nil)) sa_nil)) (se_callTy (callLst hd.gK rfl) (by walk_at "gl") hd.m_list (by rfl) (sa_cons (se_call Fs.f0 hd.gK hr (takes_of rfl rfl rfl rfl) (by walk_at "gl") (sa_cons (se_var (i := 7) rfl (by walk_at "vv")) sa_nil)) sa_nil))))))))) (ss_cons (ss_ret se_bl)
      ss_nil) ss_nil)
      (ss_cons (ss_set nd34 rfl (by walk_at "lo") (se_call Fs.f29 hd.gK hr (takes_of rfl rfl rfl rfl) (by walk_at "gl") (sa_cons (se_var (i := 7) rfl (by walk_at "vv")) (sa_cons se_dnew sa_nil))))
      (ss_cons (ss_if (st_w (sw_or (st_not (st_tru hd.gK (se_call Fs.f7 hd.gK hr (takes_of rfl rfl rfl rfl) (by walk_at "gl") (sa_cons (se_var (i := 7) rfl (by walk_at "vv")) (sa_cons (se_var (i := 3) rfl (by walk_at "vv")) sa_nil))))) (sw_or1 (st_cmp (opNe hd.gK hr.units) (se_call Fs.f7 hd.gK hr (takes_of rfl rfl rfl rfl) (by walk_at "gl") (sa_cons (se_var (i := 7) rfl (by walk_at "vv")) (sa_cons (se_var (i := 8) rfl (by walk_at "vv")) sa_nil))) (se_cmp (opEq hd.gK hr.units) (se_var (i := 2) rfl (by walk_at "vv")) (se_call Fs.f26 hd.gK hr (takes_of rfl rfl rfl rfl) (by walk_at "gl") (sa_cons (se_var (i := 8) rfl (by walk_at "vv")) (sa_cons (se_lst sa_nil) sa_nil)))))))) (ss_cons (ss_ret se_bl)
      ss_nil) ss_nil)
      (ss_cons (ss_par rfl nd34 rfl rfl (by decide) rfl rfl (sa_cons se_int (sa_cons (se_lst (sa_cons (se_tup (sa_cons (se_var (i := 2) rfl (by walk_at "vv")) (sa_cons se_int sa_nil))) sa_nil)) sa_nil)) rfl)
      (ss_cons (ss_while 100000 (passes_of rfl) (st_cmp (opNe hd.gK hr.units) (se_var (i := 10) rfl (by walk_at "vv")) (se_lst sa_nil)) (ss_cons (ss_set nd34 rfl (by walk_at "lo") (se_callB (callMax2 rfl) (by walk_at "gl") hd.m_max (by rfl) (sa_cons (se_bin (opAdd hd.gK) (se_lst (sa_cons (se_var (i := 9) rfl (by walk_at "vv")) sa_nil)) (se_lc rfl nd34 (si_any hd.gK (se_var (i := 10) rfl (by walk_at "vv"))) (blkOk_by (own := [("one", 15), ("many", 16)]) (by walk_at "blk")) (fun _ _ _ _ _ => (sgc_tup hd.gK rfl (sgc_cons (sgc_name (i := 15) nd34 rfl (by decide) (by walk_at "lo")) (sgc_cons (sgc_name (i := 16) nd34 rfl (by decide) (by walk_at "lo")) sgc_nil)))) (fun _ _ _ _ _ => sts_nil) (fun _ _ _ _ _ => (se_var (i := 16) rfl (by walk_at "vv"))))) sa_nil)))
      (ss_cons (ss_set nd34 rfl (by walk_at "lo") (se_callB (callSum rfl) (by walk_at "gl") hd.m_sum (by rfl) (sa_cons (se_lc rfl nd34 (si_any hd.gK (se_var (i := 10) rfl (by walk_at "vv"))) (blkOk_by (own := [("one", 15), ("many", 16)]) (by walk_at "blk")) (fun _ _ _ _ _ => (sgc_tup hd.gK rfl (sgc_cons (sgc_name (i := 15) nd34 rfl (by decide) (by walk_at "lo")) (sgc_cons (sgc_name (i := 16) nd34 rfl (by decide) (by walk_at "lo")) sgc_nil)))) (fun _ _ _ _ _ => (sts_one (st_tru hd.gK (se_is1 "tuple" hd.gK (by decide) (by walk_at "gl") hd.m_isinstance (by walk_at "gl") hd.m_tuple (by rfl) (by decide) (se_var (i := 15) rfl (by walk_at "vv")))))) (fun _ _ _ _ _ => (se_if (st_cmp (opEq hd.gK hr.units) (se_ix hd.gK (se_var (i := 15) rfl (by walk_at "vv")) se_int) (se_str [102, 117, 110])) (se_lst (sa_cons (se_tup (sa_cons (se_ix hd.gK (se_var (i := 15) rfl (by walk_at "vv")) se_int) (sa_cons (se_bin (opAdd hd.gK) (se_var (i := 16) rfl (by walk_at "vv")) se_int) sa_nil))) sa_nil)) (se_if (st_cmp (opEq hd.gK hr.units) (se_ix hd.gK (se_var (i := 15) rfl (by walk_at "vv")) se_int) (se_str [97, 116])) (se_lst (sa_cons (se_tup (sa_cons (se_ix hd.gK (se_var (i := 15) rfl (by walk_at "vv")) se_int) (sa_cons (se_var (i := 16) rfl (by walk_at "vv")) sa_nil))) (sa_cons (se_tup (sa_cons (se_ix hd.gK (se_var (i := 15) rfl (by walk_at "vv")) se_int) (sa_cons (se_var (i := 16) rfl (by walk_at "vv")) sa_nil))) sa_nil))) (se_lst sa_nil))))) (sa_cons (se_lst sa_nil) sa_nil))))
      ss_nil)))
      (ss_cons (ss_if (st_w (sw_or (st_cmp (opNe hd.gK hr.units) (se_call Fs.f18 hd.gK hr (takes_of rfl rfl rfl rfl) (by walk_at "gl") (sa_cons (se_var (i := 7) rfl (by walk_at "vv")) sa_nil)) (se_var (i := 9) rfl (by walk_at "vv"))) (sw_or (st_cmp (opNe hd.gK hr.units) (se_call Fs.f13 hd.gK hr (takes_of rfl rfl rfl rfl) (by walk_at "gl") (sa_cons (se_var (i := 2) rfl (by walk_at "vv")) sa_nil)) (se_call Fs.f30 hd.gK hr (takes_of rfl rfl rfl rfl) (by walk_at "gl") (sa_cons (se_var (i := 2) rfl (by walk_at "vv")) sa_nil))) (sw_or1 (st_cmp (opNe hd.gK hr.units) (se_call Fs.f12 hd.gK hr (takes_of rfl rfl rfl rfl) (by walk_at "gl") (sa_cons (se_var (i := 2) rfl (by walk_at "vv")) sa_nil)) (se_if (st_w (sw_and (st_tru hd.gK (se_is1 "tuple" hd.gK (by decide) (by walk_at "gl") hd.m_isinstance (by walk_at "gl") hd.m_tuple (by rfl) (by decide) (se_var (i := 2) rfl (by walk_at "vv")))) (sw_and1 (st_cmp (opEq hd.gK hr.units) (se_ix hd.gK (se_var (i := 2) rfl (by walk_at "vv")) se_int) (se_str [97, 116]))))) (se_sl hd.gK (se_call Fs.f30 hd.gK hr (takes_of rfl rfl rfl rfl) (by walk_at "gl") (sa_cons (se_var (i := 2) rfl (by walk_at "vv")) sa_nil)) (so_so se_int) (so_so se_neg)) (se_call Fs.f30 hd.gK hr (takes_of rfl rfl rfl rfl) (by walk_at "gl") (sa_cons (se_var (i := 2) rfl (by walk_at "vv")) sa_nil)))))))) (ss_cons (ss_ret se_bl)
      ss_nil) ss_nil)
      (ss_cons (ss_par3 rfl nd34 rfl rfl rfl (by decide) (by decide) (by decide) rfl rfl rfl (sa_cons (se_call Fs.f26 hd.gK hr (takes_of rfl rfl rfl rfl) (by walk_at "gl") (sa_cons (se_var (i := 7) rfl (by walk_at "vv")) (sa_cons (se_lst (sa_cons (se_str [120]) (sa_cons (se_str [121]) (sa_cons (se_str [122]) sa_nil)))) sa_nil))) (sa_cons (se_call Fs.f21 hd.gK hr (takes_of rfl rfl rfl rfl) (by walk_at "gl") (sa_cons (se_var (i := 1) rfl (by walk_at "vv")) (sa_cons se_int sa_nil))) (sa_cons (se_call Fs.f21 hd.gK hr (takes_of rfl rfl rfl rfl) (by walk_at "gl") (sa_cons (se_var (i := 1) rfl (by walk_at "vv")) (sa_cons se_int sa_nil))) sa_nil))) rfl)
      (ss_cons (ss_set nd34 rfl (by walk_at "lo") (se_call Fs.f26 hd.gK hr (takes_of rfl rfl rfl rfl) (by walk_at "gl") (sa_cons (se_var (i := 8) rfl (by walk_at "vv")) (sa_cons (se_lst (sa_cons (se_str [121]) (sa_cons (se_str [122]) sa_nil))) sa_nil))))
      (ss_cons (ss_if (st_w (sw_or (st_cmp (opNe hd.gK hr.units) (se_call Fs.f9 hd.gK hr (takes_of rfl rfl rfl rfl) (by walk_at "gl") (sa_cons (se_var (i := 11) rfl (by walk_at "vv")) (sa_cons (se_var (i := 12) rfl (by walk_at "vv")) (sa_cons (se_var (i := 13) rfl (by walk_at "vv")) sa_nil)))) (se_call Fs.f27 hd.gK hr (takes_of rfl rfl rfl rfl) (by walk_at "gl") (sa_cons (se_var (i := 11) rfl (by walk_at "vv")) (sa_cons (se_var (i := 12) rfl (by walk_at "vv")) (sa_cons (se_var (i := 13) rfl (by walk_at "vv")) sa_nil))))) (sw_or (st_cmp (opNe hd.gK hr.units) (se_call Fs.f10 hd.gK hr (takes_of rfl rfl rfl rfl) (by walk_at "gl") (sa_cons (se_var (i := 11) rfl (by walk_at "vv")) (sa_cons (se_var (i := 13) rfl (by walk_at "vv")) (sa_cons (se_var (i := 4) rfl (by walk_at "vv")) sa_nil)))) (se_call Fs.f28 hd.gK hr (takes_of rfl rfl rfl rfl) (by walk_at "gl") (sa_cons (se_var (i := 11) rfl (by walk_at "vv")) (sa_cons (se_var (i := 13) rfl (by walk_at "vv")) (sa_cons (se_var (i := 4) rfl (by walk_at "vv")) sa_nil))))) (sw_or1 (st_cmp (opNe hd.gK hr.units) (se_call Fs.f14 hd.gK hr (takes_of rfl rfl rfl rfl) (by walk_at "gl") (sa_cons (se_var (i := 11) rfl (by walk_at "vv")) (sa_cons (se_var (i := 13) rfl (by walk_at "vv")) sa_nil))) (se_call Fs.f32 hd.gK hr (takes_of rfl rfl rfl rfl) (by walk_at "gl") (sa_cons (se_var (i := 11) rfl (by walk_at "vv")) (sa_cons (se_var (i := 13) rfl (by walk_at "vv")) sa_nil)))))))) (ss_cons (ss_ret se_bl)
      ss_nil) ss_nil)
      (ss_cons (ss_if (st_w (sw_or (st_cmp (opNe hd.gK hr.units) (se_call Fs.f11 hd.gK hr (takes_of rfl rfl rfl rfl) (by walk_at "gl") (sa_cons (se_tup (sa_cons (se_str [97, 116]) (sa_cons (se_tup (sa_cons (se_str [102, 117, 110]) (sa_cons (se_var (i := 11) rfl (by walk_at "vv")) sa_nil))) (sa_cons (se_var (i := 4) rfl (by walk_at "vv")) sa_nil)))) sa_nil)) (se_call Fs.f28 hd.gK hr (takes_of rfl rfl rfl rfl) (by walk_at "gl") (sa_cons (se_var (i := 11) rfl (by walk_at "vv")) (sa_cons se_int (sa_cons (se_var (i := 4) rfl (by walk_at "vv")) sa_nil))))) (sw_or1 (st_cmp (opNe hd.gK hr.units) (se_call Fs.f10 hd.gK hr (takes_of rfl rfl rfl rfl) (by walk_at "gl") (sa_cons (se_call Fs.f9d1 hd.gK hr (takes_of rfl rfl rfl rfl) (by walk_at "gl") (sa_cons (se_var (i := 11) rfl (by walk_at "vv")) (sa_cons se_int sa_nil))) (sa_cons se_int (sa_cons (se_var (i := 4) rfl (by walk_at "vv")) sa_nil)))) (se_var (i := 11) rfl (by walk_at "vv")))))) (ss_cons (ss_ret se_bl)
      ss_nil) ss_nil)
      (ss_cons (ss_set nd34 rfl (by walk_at "lo") (se_call Fs.f26 hd.gK hr (takes_of rfl rfl rfl rfl) (by walk_at "gl") (sa_cons (se_call Fs.f25 hd.gK hr (takes_of rfl rfl rfl rfl) (by walk_at "gl") (sa_cons (se_var (i := 1) rfl (by walk_at "vv")) (sa_cons se_int (sa_cons (se_lst sa_nil) sa_nil)))) (sa_cons (se_lst sa_nil) sa_nil))))
      (ss_cons (ss_set nd34 rfl (by walk_at "lo") (se_call Fs.f15 hd.gK hr (takes_of rfl rfl rfl rfl) (by walk_at "gl") (sa_cons (se_var (i := 5) rfl (by walk_at "vv")) sa_nil)))
      (ss_cons (ss_if (st_w (sw_or (st_cmp (opNe hd.gK hr.units) (se_var (i := 6) rfl (by walk_at "vv")) (se_call Fs.f31 hd.gK hr (takes_of rfl rfl rfl rfl) (by walk_at "gl") (sa_cons (se_var (i := 5) rfl (by walk_at "vv")) sa_nil))) (sw_or (st_cmp (opNe hd.gK hr.units) (se_call Fs.f16 hd.gK hr (takes_of rfl rfl rfl rfl) (by walk_at "gl") (sa_cons (se_var (i := 6) rfl (by walk_at "vv")) sa_nil)) (se_var (i := 5) rfl (by walk_at "vv"))) (sw_or1 (st_cmp (opNe hd.gK hr.units) (se_lc rfl nd34 (si_rg1 (by walk_at "gl") hd.m_range (sa_cons (se_callB (callLen hd.gK) (by walk_at "gl") hd.m_len (by rfl) (sa_cons (se_var (i := 6) rfl (by walk_at "vv")) sa_nil)) sa_nil)) (blkOk_by (own := [("k", 14)]) (by walk_at "blk")) (fun _ _ _ _ _ => (sgc_name (i := 14) nd34 rfl (by decide) (by walk_at "lo"))) (fun _ _ _ _ _ => (sts_one (st_cmp (opNe hd.gK hr.units) (se_told (k := k9) (ret := [80, 108, 97, 99, 101, 69, 114, 114, 111, 114]) hd.gK (by walk_at "gl") hd.u__law_told rfl sc23 rfl (by walk_at "vv") rfl hd.x_PlaceError.gC hd.t_PlaceError hd.tb34 rfl rfl hd.hT34 hd.hu34 hr (LamX.lamS_by (by rfl)) rfl (fun _ _ _ _ _ => rfl) (fun _ _ _ _ _ _ _ hr9 => (se_call F2.f16 hd.gK hr9 lamCx_takes (by walk_at "gl") (sa_cons (se_sl hd.gK (se_var (i := 6) rfl (by walk_at "vv")) so_no (so_so (se_var (i := 14) rfl (by walk_at "vv")))) sa_nil)))) (se_str [80, 108, 97, 99, 101, 69, 114, 114, 111, 114])))) (fun _ _ _ _ _ => (se_var (i := 14) rfl (by walk_at "vv")))) (se_lst sa_nil)))))) (ss_cons (ss_ret se_bl)
      ss_nil) ss_nil)
      (ss_cons (ss_if (st_w (sw_or (st_cmp (opNe hd.gK hr.units) (se_call Fs.f17 hd.gK hr (takes_of rfl rfl rfl rfl) (by walk_at "gl") (sa_cons (se_bin (opAdd hd.gK) (se_str [49]) (se_var (i := 6) rfl (by walk_at "vv"))) (sa_cons se_int sa_nil))) (se_tup (sa_cons (se_var (i := 5) rfl (by walk_at "vv")) (sa_cons (se_bin (opAdd hd.gK) (se_callB (callLen hd.gK) (by walk_at "gl") hd.m_len (by rfl) (sa_cons (se_var (i := 6) rfl (by walk_at "vv")) sa_nil)) se_int) sa_nil)))) (sw_or1 (st_cmp (opNe hd.gK hr.units) (se_call Fs.f6 hd.gK hr (takes_of rfl rfl rfl rfl) (by walk_at "gl") (sa_cons (se_sl hd.gK (se_tup (sa_cons (se_str [97]) (sa_cons (se_str [98]) (sa_cons (se_str [99]) sa_nil)))) so_no (so_so (se_var (i := 13) rfl (by walk_at "vv")))) sa_nil)) (se_ix hd.gK (se_str [97, 98, 99, 100]) (se_var (i := 13) rfl (by walk_at "vv"))))))) (ss_cons (ss_ret se_bl)
      ss_nil) ss_nil)
      ss_nil)))))))))))))))))
      (ss_fin (se_call0 Fs.f33 hd.gK hr (takes_of rfl rfl rfl rfl) (by walk_at "gl"))))
end
/-! ### the defs behind the top -/
def dd0 : He.DefD := ⟨("free_names", none), "free_names", "free_names", defArgs (top 4), defBody (top 4), defScope (top 4), [], []⟩
def dd1 : He.DefD := ⟨("to_places", none), "to_places", "to_places", defArgs (top 7), defBody (top 7), defScope (top 7), [.adr (He.dflAt ("to_places", none) 0)], []⟩
def dd2 : He.DefD := ⟨("check_places", none), "check_places", "check_places", defArgs (top 8), defBody (top 8), defScope (top 8), [(.int 0)], []⟩
def dd3 : He.DefD := ⟨("from_places", none), "from_places", "from_places", defArgs (top 9), defBody (top 9), defScope (top 9), [], []⟩
def dd4 : He.DefD := ⟨("free_in", none), "free_in", "free_in", defArgs (top 10), defBody (top 10), defScope (top 10), [], []⟩
def dd5 : He.DefD := ⟨("named", none), "named", "named", defArgs (top 11), defBody (top 11), defScope (top 11), [], []⟩
def dd6 : He.DefD := ⟨("fresh_name", none), "fresh_name", "fresh_name", defArgs (top 12), defBody (top 12), defScope (top 12), [], []⟩
def dd7 : He.DefD := ⟨("same_but_names", none), "same_but_names", "same_but_names", defArgs (top 13), defBody (top 13), defScope (top 13), [], []⟩
def dd8 : He.DefD := ⟨("plain_names", none), "plain_names", "plain_names", defArgs (top 14), defBody (top 14), defScope (top 14), [], []⟩
def dd9 : He.DefD := ⟨("moved", none), "moved", "moved", defArgs (top 15), defBody (top 15), defScope (top 15), [(.int 0)], []⟩
def dd10 : He.DefD := ⟨("put_in", none), "put_in", "put_in", defArgs (top 16), defBody (top 16), defScope (top 16), [], []⟩
def dd11 : He.DefD := ⟨("step_here", none), "step_here", "step_here", defArgs (top 17), defBody (top 17), defScope (top 17), [], []⟩
def dd12 : He.DefD := ⟨("told_short", none), "told_short", "told_short", defArgs (top 18), defBody (top 18), defScope (top 18), [], []⟩
def dd13 : He.DefD := ⟨("told_within", none), "told_within", "told_within", defArgs (top 19), defBody (top 19), defScope (top 19), [], []⟩
def dd14 : He.DefD := ⟨("uses_of", none), "uses_of", "uses_of", defArgs (top 20), defBody (top 20), defScope (top 20), [(.int 0)], []⟩
def dd15 : He.DefD := ⟨("bits_of", none), "bits_of", "bits_of", defArgs (top 21), defBody (top 21), defScope (top 21), [], []⟩
def dd16 : He.DefD := ⟨("read_bits", none), "read_bits", "read_bits", defArgs (top 22), defBody (top 22), defScope (top 22), [], []⟩
def dd17 : He.DefD := ⟨("read_bits_from", none), "read_bits_from", "read_bits_from", defArgs (top 23), defBody (top 23), defScope (top 23), [], []⟩
def dd18 : He.DefD := ⟨("names_needed", none), "names_needed", "names_needed", defArgs (top 24), defBody (top 24), defScope (top 24), [], []⟩
def dd19 : He.DefD := ⟨("is_plain", none), "is_plain", "is_plain", defArgs (top 25), defBody (top 25), defScope (top 25), [], []⟩
def dd20 : He.DefD := ⟨("_law_dice", none), "_law_dice", "_law_dice", defArgs (top 27), defBody (top 27), defScope (top 27), [], []⟩
def dd21 : He.DefD := ⟨("_law_roll", none), "_law_roll", "_law_roll", defArgs (top 28), defBody (top 28), defScope (top 28), [], []⟩
def dd22 : He.DefD := ⟨("_law_rounds", none), "_law_rounds", "_law_rounds", defArgs (top 29), defBody (top 29), defScope (top 29), [], []⟩
def dd23 : He.DefD := ⟨("_law_told", none), "_law_told", "_law_told", defArgs (top 30), defBody (top 30), defScope (top 30), [], []⟩
def dd24 : He.DefD := ⟨("_law_term", none), "_law_term", "_law_term", defArgs (top 31), defBody (top 31), defScope (top 31), [], []⟩
def dd25 : He.DefD := ⟨("_law_closed", none), "_law_closed", "_law_closed", defArgs (top 32), defBody (top 32), defScope (top 32), [], []⟩
def dd26 : He.DefD := ⟨("_law_places", none), "_law_places", "_law_places", defArgs (top 33), defBody (top 33), defScope (top 33), [], []⟩
def dd27 : He.DefD := ⟨("_law_moved", none), "_law_moved", "_law_moved", defArgs (top 34), defBody (top 34), defScope (top 34), [], []⟩
def dd28 : He.DefD := ⟨("_law_put", none), "_law_put", "_law_put", defArgs (top 35), defBody (top 35), defScope (top 35), [], []⟩
def dd29 : He.DefD := ⟨("_law_other_names", none), "_law_other_names", "_law_other_names", defArgs (top 36), defBody (top 36), defScope (top 36), [], []⟩
def dd30 : He.DefD := ⟨("_law_text", none), "_law_text", "_law_text", defArgs (top 37), defBody (top 37), defScope (top 37), [], []⟩
def dd31 : He.DefD := ⟨("_law_bits", none), "_law_bits", "_law_bits", defArgs (top 38), defBody (top 38), defScope (top 38), [], []⟩
def dd32 : He.DefD := ⟨("_law_uses", none), "_law_uses", "_law_uses", defArgs (top 39), defBody (top 39), defScope (top 39), [], []⟩
def dd33 : He.DefD := ⟨("_law_plain", none), "_law_plain", "_law_plain", defArgs (top 40), defBody (top 40), defScope (top 40), [], []⟩
def dd34 : He.DefD := ⟨("law", none), "law", "law", defArgs (top 41), defBody (top 41), defScope (top 41), [], []⟩
def fn : List He.DefD := [dd0, dd1, dd2, dd3, dd4, dd5, dd6, dd7, dd8, dd9, dd10, dd11, dd12, dd13, dd14, dd15, dd16, dd17, dd18, dd19, dd20, dd21, dd22, dd23, dd24, dd25, dd26, dd27, dd28, dd29, dd30, dd31, dd32, dd33, dd34]
def fa : List He.Fa := [.glo "free_names", .glo "to_places", .glo "check_places", .glo "from_places", .glo "free_in", .glo "named", .glo "fresh_name", .glo "same_but_names", .glo "plain_names", .glo "moved", .glo "put_in", .glo "step_here", .glo "told_short", .glo "told_within", .glo "uses_of", .glo "bits_of", .glo "read_bits", .glo "read_bits_from", .glo "names_needed", .glo "is_plain", .glo "_law_dice", .glo "_law_roll", .glo "_law_rounds", .glo "_law_told", .glo "_law_term", .glo "_law_closed", .glo "_law_places", .glo "_law_moved", .glo "_law_put", .glo "_law_other_names", .glo "_law_text", .glo "_law_bits", .glo "_law_uses", .glo "_law_plain", .glo "law", .free "abs", .free "any", .free "dict", .free "enumerate", .free "int", .free "isinstance", .free "len", .free "list", .free "max", .free "range", .free "str", .free "sum", .free "tuple", .int "FREE_BASE" 1000, .glo "PlaceError", .exc "PlaceError", .exm "PlaceError" "PlaceError" true]
def tf : List He.Defn := [("read_bits_from", none), ("_law_plain", none), ("law", none)]
def exN (K : PySem.W.Frag) : Bool := decide (tf.map fun p => (He.cT K p).2).Nodup && emB K (He.dflAt ("to_places", none) 0 K)
def cdN : Nat → Str
  | 0 => "free_names"
  | 1 => "to_places"
  | 2 => "check_places"
  | 3 => "from_places"
  | 4 => "free_in"
  | 5 => "named"
  | 6 => "fresh_name"
  | 7 => "same_but_names"
  | 8 => "plain_names"
  | 9 => "moved"
  | 10 => "put_in"
  | 11 => "step_here"
  | 12 => "told_short"
  | 13 => "told_within"
  | 14 => "uses_of"
  | 15 => "bits_of"
  | 16 => "read_bits"
  | 17 => "read_bits_from"
  | 18 => "names_needed"
  | 19 => "is_plain"
  | 20 => "_law_dice"
  | 21 => "_law_roll"
  | 22 => "_law_rounds"
  | 23 => "_law_told"
  | 24 => "_law_term"
  | 25 => "_law_closed"
  | 26 => "_law_places"
  | 27 => "_law_moved"
  | 28 => "_law_put"
  | 29 => "_law_other_names"
  | 30 => "_law_text"
  | 31 => "_law_bits"
  | 32 => "_law_uses"
  | 33 => "_law_plain"
  | 34 => "law"
  | _ => ""
def cdK (K : PySem.W.Frag) (i : Nat) : Addr := He.codeOf K (cdN i, none)
def tbK (K : PySem.W.Frag) (i : Nat) : Addr := (He.cT K (cdN i, none)).2
def cvK (K : PySem.W.Frag) : Nat → Value
  | 1 => .ref (He.ga K "PlaceError")
  | _ => .none
def gK (K : PySem.W.Frag) : G := ⟨K, cvK K, [(tbK K 17, none), (tbK K 33, some "_law_plain.<locals>.<lambda>"), (tbK K 34, some "law.<locals>.<lambda>")], ltK⟩
section
variable {P : Program} {w : World} {K : PySem.W.Frag} {h base : Heap} {mg : Str → Option Value}
theorem hdK (X : K.In h) (G : h.Ns mainGlobals mg) (c : He.SaysX fa fn [] tf exN w h K) (TB : ∀ p ∈ tf, LamX.TabB base mg (He.cT K p).1 (He.cT K p).2) : Hd K mg base (gK K) (He.ga K "PlaceError") (cdK K) (tbK K) := by
  have fc : ∀ {f : He.Fa}, f ∈ fa → f.ok K = true := fun hf => c.t.d.facts hf
  have more := c.more
  unfold exN at more
  simp only [Bool.and_eq_true] at more
  have nd : (tf.map fun p => (He.cT K p).2).Nodup := of_decide_eq_true more.1
  have nd2 : ([tbK K 17, tbK K 33, tbK K 34] : List Addr).Nodup := nd
  simp only [List.nodup_cons, List.mem_cons, List.not_mem_nil, not_or] at nd2
  exact {
    gK := rfl
    m_abs := He.free_ok X G (fc (f := .free "abs") (List.mem_of_getElem? (i := 35) rfl))
    m_any := He.free_ok X G (fc (f := .free "any") (List.mem_of_getElem? (i := 36) rfl))
    m_dict := He.free_ok X G (fc (f := .free "dict") (List.mem_of_getElem? (i := 37) rfl))
    m_enumerate := He.free_ok X G (fc (f := .free "enumerate") (List.mem_of_getElem? (i := 38) rfl))
    m_int := He.free_ok X G (fc (f := .free "int") (List.mem_of_getElem? (i := 39) rfl))
    m_isinstance := He.free_ok X G (fc (f := .free "isinstance") (List.mem_of_getElem? (i := 40) rfl))
    m_len := He.free_ok X G (fc (f := .free "len") (List.mem_of_getElem? (i := 41) rfl))
    m_list := He.free_ok X G (fc (f := .free "list") (List.mem_of_getElem? (i := 42) rfl))
    m_max := He.free_ok X G (fc (f := .free "max") (List.mem_of_getElem? (i := 43) rfl))
    m_range := He.free_ok X G (fc (f := .free "range") (List.mem_of_getElem? (i := 44) rfl))
    m_str := He.free_ok X G (fc (f := .free "str") (List.mem_of_getElem? (i := 45) rfl))
    m_sum := He.free_ok X G (fc (f := .free "sum") (List.mem_of_getElem? (i := 46) rfl))
    m_tuple := He.free_ok X G (fc (f := .free "tuple") (List.mem_of_getElem? (i := 47) rfl))
    c_FREE_BASE := He.int_ok X G (fc (f := .int "FREE_BASE" 1000) (List.mem_of_getElem? (i := 48) rfl))
    x_PlaceError := by
      obtain ⟨h1, h2, h3, h4⟩ := He.exc_ok (fc (f := .exc "PlaceError") (List.mem_of_getElem? (i := 50) rfl))
      exact ⟨rfl, h1, He.glo_ok X G (fc (f := .glo "PlaceError") (List.mem_of_getElem? (i := 49) rfl)), h2, h3, h4⟩
    t_PlaceError := by
      intro n b hb
      unfold catch_PlaceError at hb
      split at hb
      · rename_i e
        subst e
        cases hb
        exact He.exm_ok (fc (f := .exm "PlaceError" "PlaceError" true) (List.mem_of_getElem? (i := 51) rfl))
      · cases hb
    u__law_told := by
      obtain ⟨fd, F⟩ := c.t.d.def_ 23 (d := dd23) rfl
      exact ToldF.of (He.glo_ok X G (fc (f := .glo "_law_told") (List.mem_of_getElem? (i := 23) rfl))) F.kp (FunE.of F) (FunD.bindsN F fun _ _ _ _ _ _ us hl => match us, hl with | [_], _ => rfl)
    tb17 := let t := TB _ (List.mem_of_getElem? (i := 0) rfl); ⟨t.code, t.bm, t.gP⟩
    hT17 := List.mem_of_getElem? (i := 0) rfl
    hu17 := by
      intro p hp e
      simp only [gK, List.mem_cons, List.not_mem_nil, or_false] at hp
      rcases hp with rfl | rfl | rfl <;> first | rfl | (exfalso; simp_all)
    tb33 := TB _ (List.mem_of_getElem? (i := 1) rfl)
    hT33 := List.mem_of_getElem? (i := 1) rfl
    hu33 := by
      intro p hp e
      simp only [gK, List.mem_cons, List.not_mem_nil, or_false] at hp
      rcases hp with rfl | rfl | rfl <;> first | rfl | (exfalso; simp_all)
    tb34 := TB _ (List.mem_of_getElem? (i := 2) rfl)
    hT34 := List.mem_of_getElem? (i := 2) rfl
    hu34 := by
      intro p hp e
      simp only [gK, List.mem_cons, List.not_mem_nil, or_false] at hp
      rcases hp with rfl | rfl | rfl <;> first | rfl | (exfalso; simp_all)
    lt := fun _ => rfl }
theorem fsA (gKd : Hd K mg base (gK K) (He.ga K "PlaceError") (cdK K) (tbK K)) (X : K.In h) (G : h.Ns mainGlobals mg) (c : He.SaysX fa fn [] tf exN w h K) : ∀ d : Nat, FsF P w K mg base (gK K) (callF d) (d + 2) ∧ (∀ j fn, lamP d j = some fn → ∃ k, k + 1 = d + 2 ∧ LamOk P w K mg base (gK K) k j fn) ∧ FsF P w K mg base (gK K) (callL d).2.2.1 (d + 1) ∧ FsF P w K mg base (gK K) (callT d) d := by
  have fc : ∀ {f : He.Fa}, f ∈ fa → f.ok K = true := fun hf => c.t.d.facts hf
  obtain ⟨fd0, F0⟩ := c.t.d.def_ 0 (d := dd0) rfl
  have E0 : FunE K "free_names" (top 4) (He.fAd K ("free_names", none)) fd0 (.ref (cdK K 0)) := FunE.of F0
  have M0 : mg "free_names" = some (.ref (He.fAd K ("free_names", none))) := He.glo_ok X G (fc (f := .glo "free_names") (List.mem_of_getElem? (i := 0) rfl))
  have B0 : Binds K fd0 ["term"] [] := FunD.bindsN F0 fun _ _ _ _ _ _ us hl => match us, hl with | [_], _ => rfl
  obtain ⟨fd1, F1⟩ := c.t.d.def_ 1 (d := dd1) rfl
  have E1 : FunE K "to_places" (top 7) (He.fAd K ("to_places", none)) fd1 (.ref (cdK K 1)) := FunE.of F1
  have M1 : mg "to_places" = some (.ref (He.fAd K ("to_places", none))) := He.glo_ok X G (fc (f := .glo "to_places") (List.mem_of_getElem? (i := 1) rfl))
  have B1 : Binds K fd1 ["term", "around"] [] := by
    obtain ⟨ds, v, b⟩ := FunD.binds1 F1 (ps := ["term", "around"]) 2 1 (by intro z; cases z) rfl (fun _ _ _ _ _ _ _ us its hl hl2 => match us, its, hl, hl2 with | [_, _], [_], _, _ => ⟨_, rfl, rfl⟩)
    cases v
    exact b
  obtain ⟨ds1, V1, Bd1⟩ := FunD.binds1 F1 (ps := ["term", "around"]) 1 0 (by intro z; cases z) rfl (fun _ _ _ _ _ _ _ us its hl hl2 => match us, its, hl, hl2 with | [_], [_], _, _ => ⟨_, rfl, rfl⟩)
  obtain ⟨fd2, F2⟩ := c.t.d.def_ 2 (d := dd2) rfl
  have E2 : FunE K "check_places" (top 8) (He.fAd K ("check_places", none)) fd2 (.ref (cdK K 2)) := FunE.of F2
  have M2 : mg "check_places" = some (.ref (He.fAd K ("check_places", none))) := He.glo_ok X G (fc (f := .glo "check_places") (List.mem_of_getElem? (i := 2) rfl))
  have B2 : Binds K fd2 ["term", "deep"] [] := by
    obtain ⟨ds, v, b⟩ := FunD.binds1 F2 (ps := ["term", "deep"]) 2 1 (by intro z; cases z) rfl (fun _ _ _ _ _ _ _ us its hl hl2 => match us, its, hl, hl2 with | [_, _], [_], _, _ => ⟨_, rfl, rfl⟩)
    cases v
    exact b
  obtain ⟨ds2, V2, Bd2⟩ := FunD.binds1 F2 (ps := ["term", "deep"]) 1 0 (by intro z; cases z) rfl (fun _ _ _ _ _ _ _ us its hl hl2 => match us, its, hl, hl2 with | [_], [_], _, _ => ⟨_, rfl, rfl⟩)
  obtain ⟨fd3, F3⟩ := c.t.d.def_ 3 (d := dd3) rfl
  have E3 : FunE K "from_places" (top 9) (He.fAd K ("from_places", none)) fd3 (.ref (cdK K 3)) := FunE.of F3
  have M3 : mg "from_places" = some (.ref (He.fAd K ("from_places", none))) := He.glo_ok X G (fc (f := .glo "from_places") (List.mem_of_getElem? (i := 3) rfl))
  have B3 : Binds K fd3 ["term"] [] := FunD.bindsN F3 fun _ _ _ _ _ _ us hl => match us, hl with | [_], _ => rfl
  obtain ⟨fd4, F4⟩ := c.t.d.def_ 4 (d := dd4) rfl
  have E4 : FunE K "free_in" (top 10) (He.fAd K ("free_in", none)) fd4 (.ref (cdK K 4)) := FunE.of F4
  have M4 : mg "free_in" = some (.ref (He.fAd K ("free_in", none))) := He.glo_ok X G (fc (f := .glo "free_in") (List.mem_of_getElem? (i := 4) rfl))
  have B4 : Binds K fd4 ["term"] [] := FunD.bindsN F4 fun _ _ _ _ _ _ us hl => match us, hl with | [_], _ => rfl
  obtain ⟨fd5, F5⟩ := c.t.d.def_ 5 (d := dd5) rfl
  have E5 : FunE K "named" (top 11) (He.fAd K ("named", none)) fd5 (.ref (cdK K 5)) := FunE.of F5
  have M5 : mg "named" = some (.ref (He.fAd K ("named", none))) := He.glo_ok X G (fc (f := .glo "named") (List.mem_of_getElem? (i := 5) rfl))
  have B5 : Binds K fd5 ["term", "around", "taken"] [] := FunD.bindsN F5 fun _ _ _ _ _ _ us hl => match us, hl with | [_, _, _], _ => rfl
  obtain ⟨fd6, F6⟩ := c.t.d.def_ 6 (d := dd6) rfl
  have E6 : FunE K "fresh_name" (top 12) (He.fAd K ("fresh_name", none)) fd6 (.ref (cdK K 6)) := FunE.of F6
  have M6 : mg "fresh_name" = some (.ref (He.fAd K ("fresh_name", none))) := He.glo_ok X G (fc (f := .glo "fresh_name") (List.mem_of_getElem? (i := 6) rfl))
  have B6 : Binds K fd6 ["taken"] [] := FunD.bindsN F6 fun _ _ _ _ _ _ us hl => match us, hl with | [_], _ => rfl
  obtain ⟨fd7, F7⟩ := c.t.d.def_ 7 (d := dd7) rfl
  have E7 : FunE K "same_but_names" (top 13) (He.fAd K ("same_but_names", none)) fd7 (.ref (cdK K 7)) := FunE.of F7
  have M7 : mg "same_but_names" = some (.ref (He.fAd K ("same_but_names", none))) := He.glo_ok X G (fc (f := .glo "same_but_names") (List.mem_of_getElem? (i := 7) rfl))
  have B7 : Binds K fd7 ["one", "other"] [] := FunD.bindsN F7 fun _ _ _ _ _ _ us hl => match us, hl with | [_, _], _ => rfl
  obtain ⟨fd8, F8⟩ := c.t.d.def_ 8 (d := dd8) rfl
  have E8 : FunE K "plain_names" (top 14) (He.fAd K ("plain_names", none)) fd8 (.ref (cdK K 8)) := FunE.of F8
  have M8 : mg "plain_names" = some (.ref (He.fAd K ("plain_names", none))) := He.glo_ok X G (fc (f := .glo "plain_names") (List.mem_of_getElem? (i := 8) rfl))
  have B8 : Binds K fd8 ["term"] [] := FunD.bindsN F8 fun _ _ _ _ _ _ us hl => match us, hl with | [_], _ => rfl
  obtain ⟨fd9, F9⟩ := c.t.d.def_ 9 (d := dd9) rfl
  have E9 : FunE K "moved" (top 15) (He.fAd K ("moved", none)) fd9 (.ref (cdK K 9)) := FunE.of F9
  have M9 : mg "moved" = some (.ref (He.fAd K ("moved", none))) := He.glo_ok X G (fc (f := .glo "moved") (List.mem_of_getElem? (i := 9) rfl))
  have B9 : Binds K fd9 ["term", "by", "out"] [] := by
    obtain ⟨ds, v, b⟩ := FunD.binds1 F9 (ps := ["term", "by", "out"]) 3 1 (by intro z; cases z) rfl (fun _ _ _ _ _ _ _ us its hl hl2 => match us, its, hl, hl2 with | [_, _, _], [_], _, _ => ⟨_, rfl, rfl⟩)
    cases v
    exact b
  obtain ⟨ds9, V9, Bd9⟩ := FunD.binds1 F9 (ps := ["term", "by", "out"]) 2 0 (by intro z; cases z) rfl (fun _ _ _ _ _ _ _ us its hl hl2 => match us, its, hl, hl2 with | [_, _], [_], _, _ => ⟨_, rfl, rfl⟩)
  obtain ⟨fd10, F10⟩ := c.t.d.def_ 10 (d := dd10) rfl
  have E10 : FunE K "put_in" (top 16) (He.fAd K ("put_in", none)) fd10 (.ref (cdK K 10)) := FunE.of F10
  have M10 : mg "put_in" = some (.ref (He.fAd K ("put_in", none))) := He.glo_ok X G (fc (f := .glo "put_in") (List.mem_of_getElem? (i := 10) rfl))
  have B10 : Binds K fd10 ["term", "out", "other"] [] := FunD.bindsN F10 fun _ _ _ _ _ _ us hl => match us, hl with | [_, _, _], _ => rfl
  obtain ⟨fd11, F11⟩ := c.t.d.def_ 11 (d := dd11) rfl
  have E11 : FunE K "step_here" (top 17) (He.fAd K ("step_here", none)) fd11 (.ref (cdK K 11)) := FunE.of F11
  have M11 : mg "step_here" = some (.ref (He.fAd K ("step_here", none))) := He.glo_ok X G (fc (f := .glo "step_here") (List.mem_of_getElem? (i := 11) rfl))
  have B11 : Binds K fd11 ["term"] [] := FunD.bindsN F11 fun _ _ _ _ _ _ us hl => match us, hl with | [_], _ => rfl
  obtain ⟨fd12, F12⟩ := c.t.d.def_ 12 (d := dd12) rfl
  have E12 : FunE K "told_short" (top 18) (He.fAd K ("told_short", none)) fd12 (.ref (cdK K 12)) := FunE.of F12
  have M12 : mg "told_short" = some (.ref (He.fAd K ("told_short", none))) := He.glo_ok X G (fc (f := .glo "told_short") (List.mem_of_getElem? (i := 12) rfl))
  have B12 : Binds K fd12 ["term"] [] := FunD.bindsN F12 fun _ _ _ _ _ _ us hl => match us, hl with | [_], _ => rfl
  obtain ⟨fd13, F13⟩ := c.t.d.def_ 13 (d := dd13) rfl
  have E13 : FunE K "told_within" (top 19) (He.fAd K ("told_within", none)) fd13 (.ref (cdK K 13)) := FunE.of F13
  have M13 : mg "told_within" = some (.ref (He.fAd K ("told_within", none))) := He.glo_ok X G (fc (f := .glo "told_within") (List.mem_of_getElem? (i := 13) rfl))
  have B13 : Binds K fd13 ["term"] [] := FunD.bindsN F13 fun _ _ _ _ _ _ us hl => match us, hl with | [_], _ => rfl
  obtain ⟨fd14, F14⟩ := c.t.d.def_ 14 (d := dd14) rfl
  have E14 : FunE K "uses_of" (top 20) (He.fAd K ("uses_of", none)) fd14 (.ref (cdK K 14)) := FunE.of F14
  have M14 : mg "uses_of" = some (.ref (He.fAd K ("uses_of", none))) := He.glo_ok X G (fc (f := .glo "uses_of") (List.mem_of_getElem? (i := 14) rfl))
  have B14 : Binds K fd14 ["term", "out"] [] := by
    obtain ⟨ds, v, b⟩ := FunD.binds1 F14 (ps := ["term", "out"]) 2 1 (by intro z; cases z) rfl (fun _ _ _ _ _ _ _ us its hl hl2 => match us, its, hl, hl2 with | [_, _], [_], _, _ => ⟨_, rfl, rfl⟩)
    cases v
    exact b
  obtain ⟨ds14, V14, Bd14⟩ := FunD.binds1 F14 (ps := ["term", "out"]) 1 0 (by intro z; cases z) rfl (fun _ _ _ _ _ _ _ us its hl hl2 => match us, its, hl, hl2 with | [_], [_], _, _ => ⟨_, rfl, rfl⟩)
  obtain ⟨fd15, F15⟩ := c.t.d.def_ 15 (d := dd15) rfl
  have E15 : FunE K "bits_of" (top 21) (He.fAd K ("bits_of", none)) fd15 (.ref (cdK K 15)) := FunE.of F15
  have M15 : mg "bits_of" = some (.ref (He.fAd K ("bits_of", none))) := He.glo_ok X G (fc (f := .glo "bits_of") (List.mem_of_getElem? (i := 15) rfl))
  have B15 : Binds K fd15 ["term"] [] := FunD.bindsN F15 fun _ _ _ _ _ _ us hl => match us, hl with | [_], _ => rfl
  obtain ⟨fd16, F16⟩ := c.t.d.def_ 16 (d := dd16) rfl
  have E16 : FunE K "read_bits" (top 22) (He.fAd K ("read_bits", none)) fd16 (.ref (cdK K 16)) := FunE.of F16
  have M16 : mg "read_bits" = some (.ref (He.fAd K ("read_bits", none))) := He.glo_ok X G (fc (f := .glo "read_bits") (List.mem_of_getElem? (i := 16) rfl))
  have B16 : Binds K fd16 ["text"] [] := FunD.bindsN F16 fun _ _ _ _ _ _ us hl => match us, hl with | [_], _ => rfl
  obtain ⟨fd17, F17⟩ := c.t.d.def_ 17 (d := dd17) rfl
  have E17 : FunE K "read_bits_from" (top 23) (He.fAd K ("read_bits_from", none)) fd17 (.ref (cdK K 17)) := FunE.of F17
  have M17 : mg "read_bits_from" = some (.ref (He.fAd K ("read_bits_from", none))) := He.glo_ok X G (fc (f := .glo "read_bits_from") (List.mem_of_getElem? (i := 17) rfl))
  have B17 : Binds K fd17 ["text", "place"] [] := FunD.bindsN F17 fun _ _ _ _ _ _ us hl => match us, hl with | [_, _], _ => rfl
  obtain ⟨fd18, F18⟩ := c.t.d.def_ 18 (d := dd18) rfl
  have E18 : FunE K "names_needed" (top 24) (He.fAd K ("names_needed", none)) fd18 (.ref (cdK K 18)) := FunE.of F18
  have M18 : mg "names_needed" = some (.ref (He.fAd K ("names_needed", none))) := He.glo_ok X G (fc (f := .glo "names_needed") (List.mem_of_getElem? (i := 18) rfl))
  have B18 : Binds K fd18 ["term"] [] := FunD.bindsN F18 fun _ _ _ _ _ _ us hl => match us, hl with | [_], _ => rfl
  obtain ⟨fd19, F19⟩ := c.t.d.def_ 19 (d := dd19) rfl
  have E19 : FunE K "is_plain" (top 25) (He.fAd K ("is_plain", none)) fd19 (.ref (cdK K 19)) := FunE.of F19
  have M19 : mg "is_plain" = some (.ref (He.fAd K ("is_plain", none))) := He.glo_ok X G (fc (f := .glo "is_plain") (List.mem_of_getElem? (i := 19) rfl))
  have B19 : Binds K fd19 ["term"] [] := FunD.bindsN F19 fun _ _ _ _ _ _ us hl => match us, hl with | [_], _ => rfl
  obtain ⟨fd20, F20⟩ := c.t.d.def_ 20 (d := dd20) rfl
  have E20 : FunE K "_law_dice" (top 27) (He.fAd K ("_law_dice", none)) fd20 (.ref (cdK K 20)) := FunE.of F20
  have M20 : mg "_law_dice" = some (.ref (He.fAd K ("_law_dice", none))) := He.glo_ok X G (fc (f := .glo "_law_dice") (List.mem_of_getElem? (i := 20) rfl))
  have B20 : Binds K fd20 ["cell"] [] := FunD.bindsN F20 fun _ _ _ _ _ _ us hl => match us, hl with | [_], _ => rfl
  obtain ⟨fd21, F21⟩ := c.t.d.def_ 21 (d := dd21) rfl
  have E21 : FunE K "_law_roll" (top 28) (He.fAd K ("_law_roll", none)) fd21 (.ref (cdK K 21)) := FunE.of F21
  have M21 : mg "_law_roll" = some (.ref (He.fAd K ("_law_roll", none))) := He.glo_ok X G (fc (f := .glo "_law_roll") (List.mem_of_getElem? (i := 21) rfl))
  have B21 : Binds K fd21 ["dice", "many"] [] := FunD.bindsN F21 fun _ _ _ _ _ _ us hl => match us, hl with | [_, _], _ => rfl
  obtain ⟨fd22, F22⟩ := c.t.d.def_ 22 (d := dd22) rfl
  have E22 : FunE K "_law_rounds" (top 29) (He.fAd K ("_law_rounds", none)) fd22 (.ref (cdK K 22)) := FunE.of F22
  have M22 : mg "_law_rounds" = some (.ref (He.fAd K ("_law_rounds", none))) := He.glo_ok X G (fc (f := .glo "_law_rounds") (List.mem_of_getElem? (i := 22) rfl))
  have B22 : Binds K fd22 ["script", "most"] [] := FunD.bindsN F22 fun _ _ _ _ _ _ us hl => match us, hl with | [_, _], _ => rfl
  obtain ⟨fd23, F23⟩ := c.t.d.def_ 23 (d := dd23) rfl
  have E23 : FunE K "_law_told" (top 30) (He.fAd K ("_law_told", none)) fd23 (.ref (cdK K 23)) := FunE.of F23
  have M23 : mg "_law_told" = some (.ref (He.fAd K ("_law_told", none))) := He.glo_ok X G (fc (f := .glo "_law_told") (List.mem_of_getElem? (i := 23) rfl))
  have B23 : Binds K fd23 ["what"] [] := FunD.bindsN F23 fun _ _ _ _ _ _ us hl => match us, hl with | [_], _ => rfl
  obtain ⟨fd24, F24⟩ := c.t.d.def_ 24 (d := dd24) rfl
  have E24 : FunE K "_law_term" (top 31) (He.fAd K ("_law_term", none)) fd24 (.ref (cdK K 24)) := FunE.of F24
  have M24 : mg "_law_term" = some (.ref (He.fAd K ("_law_term", none))) := He.glo_ok X G (fc (f := .glo "_law_term") (List.mem_of_getElem? (i := 24) rfl))
  have B24 : Binds K fd24 ["dice", "deep", "names"] [] := FunD.bindsN F24 fun _ _ _ _ _ _ us hl => match us, hl with | [_, _, _], _ => rfl
  obtain ⟨fd25, F25⟩ := c.t.d.def_ 25 (d := dd25) rfl
  have E25 : FunE K "_law_closed" (top 32) (He.fAd K ("_law_closed", none)) fd25 (.ref (cdK K 25)) := FunE.of F25
  have M25 : mg "_law_closed" = some (.ref (He.fAd K ("_law_closed", none))) := He.glo_ok X G (fc (f := .glo "_law_closed") (List.mem_of_getElem? (i := 25) rfl))
  have B25 : Binds K fd25 ["dice", "deep", "names"] [] := FunD.bindsN F25 fun _ _ _ _ _ _ us hl => match us, hl with | [_, _, _], _ => rfl
  obtain ⟨fd26, F26⟩ := c.t.d.def_ 26 (d := dd26) rfl
  have E26 : FunE K "_law_places" (top 33) (He.fAd K ("_law_places", none)) fd26 (.ref (cdK K 26)) := FunE.of F26
  have M26 : mg "_law_places" = some (.ref (He.fAd K ("_law_places", none))) := He.glo_ok X G (fc (f := .glo "_law_places") (List.mem_of_getElem? (i := 26) rfl))
  have B26 : Binds K fd26 ["term", "around"] [] := FunD.bindsN F26 fun _ _ _ _ _ _ us hl => match us, hl with | [_, _], _ => rfl
  obtain ⟨fd27, F27⟩ := c.t.d.def_ 27 (d := dd27) rfl
  have E27 : FunE K "_law_moved" (top 34) (He.fAd K ("_law_moved", none)) fd27 (.ref (cdK K 27)) := FunE.of F27
  have M27 : mg "_law_moved" = some (.ref (He.fAd K ("_law_moved", none))) := He.glo_ok X G (fc (f := .glo "_law_moved") (List.mem_of_getElem? (i := 27) rfl))
  have B27 : Binds K fd27 ["term", "by", "out"] [] := FunD.bindsN F27 fun _ _ _ _ _ _ us hl => match us, hl with | [_, _, _], _ => rfl
  obtain ⟨fd28, F28⟩ := c.t.d.def_ 28 (d := dd28) rfl
  have E28 : FunE K "_law_put" (top 35) (He.fAd K ("_law_put", none)) fd28 (.ref (cdK K 28)) := FunE.of F28
  have M28 : mg "_law_put" = some (.ref (He.fAd K ("_law_put", none))) := He.glo_ok X G (fc (f := .glo "_law_put") (List.mem_of_getElem? (i := 28) rfl))
  have B28 : Binds K fd28 ["term", "out", "other"] [] := FunD.bindsN F28 fun _ _ _ _ _ _ us hl => match us, hl with | [_, _, _], _ => rfl
  obtain ⟨fd29, F29⟩ := c.t.d.def_ 29 (d := dd29) rfl
  have E29 : FunE K "_law_other_names" (top 36) (He.fAd K ("_law_other_names", none)) fd29 (.ref (cdK K 29)) := FunE.of F29
  have M29 : mg "_law_other_names" = some (.ref (He.fAd K ("_law_other_names", none))) := He.glo_ok X G (fc (f := .glo "_law_other_names") (List.mem_of_getElem? (i := 29) rfl))
  have B29 : Binds K fd29 ["term", "table"] [] := FunD.bindsN F29 fun _ _ _ _ _ _ us hl => match us, hl with | [_, _], _ => rfl
  obtain ⟨fd30, F30⟩ := c.t.d.def_ 30 (d := dd30) rfl
  have E30 : FunE K "_law_text" (top 37) (He.fAd K ("_law_text", none)) fd30 (.ref (cdK K 30)) := FunE.of F30
  have M30 : mg "_law_text" = some (.ref (He.fAd K ("_law_text", none))) := He.glo_ok X G (fc (f := .glo "_law_text") (List.mem_of_getElem? (i := 30) rfl))
  have B30 : Binds K fd30 ["term"] [] := FunD.bindsN F30 fun _ _ _ _ _ _ us hl => match us, hl with | [_], _ => rfl
  obtain ⟨fd31, F31⟩ := c.t.d.def_ 31 (d := dd31) rfl
  have E31 : FunE K "_law_bits" (top 38) (He.fAd K ("_law_bits", none)) fd31 (.ref (cdK K 31)) := FunE.of F31
  have M31 : mg "_law_bits" = some (.ref (He.fAd K ("_law_bits", none))) := He.glo_ok X G (fc (f := .glo "_law_bits") (List.mem_of_getElem? (i := 31) rfl))
  have B31 : Binds K fd31 ["term"] [] := FunD.bindsN F31 fun _ _ _ _ _ _ us hl => match us, hl with | [_], _ => rfl
  obtain ⟨fd32, F32⟩ := c.t.d.def_ 32 (d := dd32) rfl
  have E32 : FunE K "_law_uses" (top 39) (He.fAd K ("_law_uses", none)) fd32 (.ref (cdK K 32)) := FunE.of F32
  have M32 : mg "_law_uses" = some (.ref (He.fAd K ("_law_uses", none))) := He.glo_ok X G (fc (f := .glo "_law_uses") (List.mem_of_getElem? (i := 32) rfl))
  have B32 : Binds K fd32 ["term", "out"] [] := FunD.bindsN F32 fun _ _ _ _ _ _ us hl => match us, hl with | [_, _], _ => rfl
  obtain ⟨fd33, F33⟩ := c.t.d.def_ 33 (d := dd33) rfl
  have E33 : FunE K "_law_plain" (top 40) (He.fAd K ("_law_plain", none)) fd33 (.ref (cdK K 33)) := FunE.of F33
  have M33 : mg "_law_plain" = some (.ref (He.fAd K ("_law_plain", none))) := He.glo_ok X G (fc (f := .glo "_law_plain") (List.mem_of_getElem? (i := 33) rfl))
  have B33 : Binds K fd33 [] [] := FunD.bindsN F33 fun _ _ _ _ _ _ us hl => match us, hl with | [], _ => rfl
  have more := c.more
  unfold exN at more
  simp only [Bool.and_eq_true] at more
  have em1 : emB K (He.dflAt ("to_places", none) 0 K) = true := more.2
  have fsBad : ∀ k, FsF P w K mg base (gK K) badO k := fun k => {
      f0 := ⟨_, fd0, ["term"], [], [], rfl, M0, F0.kp, B0, .nil, fun _ _ => .nil, ok_bad (ps := ["term"]) fun _ _ => rfl⟩,
      f1 := ⟨_, fd1, ["term", "around"], [], [], rfl, M1, F1.kp, B1, .nil, fun _ _ => .nil, ok_bad (ps := ["term", "around"]) fun _ _ => rfl⟩,
      f1d1 := ⟨_, fd1, ["term", "around"], ds1, _, rfl, M1, F1.kp, Bd1, V1, fun _ H => .cons (.tup (emB_ok em1 H) .nil) .nil, ok_bad (ps := ["term", "around"]) fun _ _ => rfl⟩,
      f2 := ⟨_, fd2, ["term", "deep"], [], [], rfl, M2, F2.kp, B2, .nil, fun _ _ => .nil, ok_bad (ps := ["term", "deep"]) fun _ _ => rfl⟩,
      f2d1 := ⟨_, fd2, ["term", "deep"], ds2, _, rfl, M2, F2.kp, Bd2, V2, fun _ _ => .cons (.int _) .nil, ok_bad (ps := ["term", "deep"]) fun _ _ => rfl⟩,
      f3 := ⟨_, fd3, ["term"], [], [], rfl, M3, F3.kp, B3, .nil, fun _ _ => .nil, ok_bad (ps := ["term"]) fun _ _ => rfl⟩,
      f4 := ⟨_, fd4, ["term"], [], [], rfl, M4, F4.kp, B4, .nil, fun _ _ => .nil, ok_bad (ps := ["term"]) fun _ _ => rfl⟩,
      f5 := ⟨_, fd5, ["term", "around", "taken"], [], [], rfl, M5, F5.kp, B5, .nil, fun _ _ => .nil, ok_bad (ps := ["term", "around", "taken"]) fun _ _ => rfl⟩,
      f6 := ⟨_, fd6, ["taken"], [], [], rfl, M6, F6.kp, B6, .nil, fun _ _ => .nil, ok_bad (ps := ["taken"]) fun _ _ => rfl⟩,
      f7 := ⟨_, fd7, ["one", "other"], [], [], rfl, M7, F7.kp, B7, .nil, fun _ _ => .nil, ok_bad (ps := ["one", "other"]) fun _ _ => rfl⟩,
      f8 := ⟨_, fd8, ["term"], [], [], rfl, M8, F8.kp, B8, .nil, fun _ _ => .nil, ok_bad (ps := ["term"]) fun _ _ => rfl⟩,
      f9 := ⟨_, fd9, ["term", "by", "out"], [], [], rfl, M9, F9.kp, B9, .nil, fun _ _ => .nil, ok_bad (ps := ["term", "by", "out"]) fun _ _ => rfl⟩,
      f9d1 := ⟨_, fd9, ["term", "by", "out"], ds9, _, rfl, M9, F9.kp, Bd9, V9, fun _ _ => .cons (.int _) .nil, ok_bad (ps := ["term", "by", "out"]) fun _ _ => rfl⟩,
      f10 := ⟨_, fd10, ["term", "out", "other"], [], [], rfl, M10, F10.kp, B10, .nil, fun _ _ => .nil, ok_bad (ps := ["term", "out", "other"]) fun _ _ => rfl⟩,
      f11 := ⟨_, fd11, ["term"], [], [], rfl, M11, F11.kp, B11, .nil, fun _ _ => .nil, ok_bad (ps := ["term"]) fun _ _ => rfl⟩,
      f12 := ⟨_, fd12, ["term"], [], [], rfl, M12, F12.kp, B12, .nil, fun _ _ => .nil, ok_bad (ps := ["term"]) fun _ _ => rfl⟩,
      f13 := ⟨_, fd13, ["term"], [], [], rfl, M13, F13.kp, B13, .nil, fun _ _ => .nil, ok_bad (ps := ["term"]) fun _ _ => rfl⟩,
      f14 := ⟨_, fd14, ["term", "out"], [], [], rfl, M14, F14.kp, B14, .nil, fun _ _ => .nil, ok_bad (ps := ["term", "out"]) fun _ _ => rfl⟩,
      f14d1 := ⟨_, fd14, ["term", "out"], ds14, _, rfl, M14, F14.kp, Bd14, V14, fun _ _ => .cons (.int _) .nil, ok_bad (ps := ["term", "out"]) fun _ _ => rfl⟩,
      f15 := ⟨_, fd15, ["term"], [], [], rfl, M15, F15.kp, B15, .nil, fun _ _ => .nil, ok_bad (ps := ["term"]) fun _ _ => rfl⟩,
      f16 := ⟨_, fd16, ["text"], [], [], rfl, M16, F16.kp, B16, .nil, fun _ _ => .nil, ok_bad (ps := ["text"]) fun _ _ => rfl⟩,
      f17 := ⟨_, fd17, ["text", "place"], [], [], rfl, M17, F17.kp, B17, .nil, fun _ _ => .nil, ok_bad (ps := ["text", "place"]) fun _ _ => rfl⟩,
      f18 := ⟨_, fd18, ["term"], [], [], rfl, M18, F18.kp, B18, .nil, fun _ _ => .nil, ok_bad (ps := ["term"]) fun _ _ => rfl⟩,
      f19 := ⟨_, fd19, ["term"], [], [], rfl, M19, F19.kp, B19, .nil, fun _ _ => .nil, ok_bad (ps := ["term"]) fun _ _ => rfl⟩,
      f20 := ⟨_, fd20, ["cell"], [], [], rfl, M20, F20.kp, B20, .nil, fun _ _ => .nil, ok_bad (ps := ["cell"]) fun _ _ => rfl⟩,
      f21 := ⟨_, fd21, ["dice", "many"], [], [], rfl, M21, F21.kp, B21, .nil, fun _ _ => .nil, ok_bad (ps := ["dice", "many"]) fun _ _ => rfl⟩,
      f22 := ⟨_, fd22, ["script", "most"], [], [], rfl, M22, F22.kp, B22, .nil, fun _ _ => .nil, ok_bad (ps := ["script", "most"]) fun _ _ => rfl⟩,
      f23 := ⟨_, fd23, ["what"], [], [], rfl, M23, F23.kp, B23, .nil, fun _ _ => .nil, ok_bad (ps := ["what"]) fun _ _ => rfl⟩,
      f24 := ⟨_, fd24, ["dice", "deep", "names"], [], [], rfl, M24, F24.kp, B24, .nil, fun _ _ => .nil, ok_bad (ps := ["dice", "deep", "names"]) fun _ _ => rfl⟩,
      f25 := ⟨_, fd25, ["dice", "deep", "names"], [], [], rfl, M25, F25.kp, B25, .nil, fun _ _ => .nil, ok_bad (ps := ["dice", "deep", "names"]) fun _ _ => rfl⟩,
      f26 := ⟨_, fd26, ["term", "around"], [], [], rfl, M26, F26.kp, B26, .nil, fun _ _ => .nil, ok_bad (ps := ["term", "around"]) fun _ _ => rfl⟩,
      f27 := ⟨_, fd27, ["term", "by", "out"], [], [], rfl, M27, F27.kp, B27, .nil, fun _ _ => .nil, ok_bad (ps := ["term", "by", "out"]) fun _ _ => rfl⟩,
      f28 := ⟨_, fd28, ["term", "out", "other"], [], [], rfl, M28, F28.kp, B28, .nil, fun _ _ => .nil, ok_bad (ps := ["term", "out", "other"]) fun _ _ => rfl⟩,
      f29 := ⟨_, fd29, ["term", "table"], [], [], rfl, M29, F29.kp, B29, .nil, fun _ _ => .nil, ok_bad (ps := ["term", "table"]) fun _ _ => rfl⟩,
      f30 := ⟨_, fd30, ["term"], [], [], rfl, M30, F30.kp, B30, .nil, fun _ _ => .nil, ok_bad (ps := ["term"]) fun _ _ => rfl⟩,
      f31 := ⟨_, fd31, ["term"], [], [], rfl, M31, F31.kp, B31, .nil, fun _ _ => .nil, ok_bad (ps := ["term"]) fun _ _ => rfl⟩,
      f32 := ⟨_, fd32, ["term", "out"], [], [], rfl, M32, F32.kp, B32, .nil, fun _ _ => .nil, ok_bad (ps := ["term", "out"]) fun _ _ => rfl⟩,
      f33 := ⟨_, fd33, [], [], [], rfl, M33, F33.kp, B33, .nil, fun _ _ => .nil, ok_bad (ps := []) fun _ _ => rfl⟩ }
  intro d
  induction d with
  | zero => exact ⟨fsBad 2, (fun j fn h => by cases h), fsBad 1, fsBad 0⟩
  | succ d ih =>
    obtain ⟨h1, h2, h3, h4⟩ := ih
    have FsD : Fs P w K mg base (gK K) (callF d) (lamP d) (callT d) (d + 2) := ⟨h1, h2, d, rfl, h4⟩
    have f0 : FsF P w K mg base (gK K) (callF (d + 1)) (d + 3) := {
      f0 := ⟨_, fd0, ["term"], [], [], rfl, M0, F0.kp, B0, .nil, fun _ _ => .nil, okE (k := d + 2) (c := callF (d + 1)) E0 rfl sc0 (fun _ _ => rfl) fun A outer s H E hr => d0 gKd FsD hr⟩,
      f1 := ⟨_, fd1, ["term", "around"], [], [], rfl, M1, F1.kp, B1, .nil, fun _ _ => .nil, okE (k := d + 2) (c := callF (d + 1)) E1 rfl sc1 (fun _ _ => rfl) fun A outer s H E hr => d1 gKd FsD hr⟩,
      f1d1 := ⟨_, fd1, ["term", "around"], ds1, _, rfl, M1, F1.kp, Bd1, V1, fun _ H => .cons (.tup (emB_ok em1 H) .nil) .nil, okE (k := d + 2) (c := callF (d + 1)) E1 rfl sc1 (fun _ _ => rfl) fun A outer s H E hr => d1 gKd FsD hr⟩,
      f2 := ⟨_, fd2, ["term", "deep"], [], [], rfl, M2, F2.kp, B2, .nil, fun _ _ => .nil, okE (k := d + 2) (c := callF (d + 1)) E2 rfl sc2 (fun _ _ => rfl) fun A outer s H E hr => d2 gKd FsD hr⟩,
      f2d1 := ⟨_, fd2, ["term", "deep"], ds2, _, rfl, M2, F2.kp, Bd2, V2, fun _ _ => .cons (.int _) .nil, okE (k := d + 2) (c := callF (d + 1)) E2 rfl sc2 (fun _ _ => rfl) fun A outer s H E hr => d2 gKd FsD hr⟩,
      f3 := ⟨_, fd3, ["term"], [], [], rfl, M3, F3.kp, B3, .nil, fun _ _ => .nil, okE (k := d + 2) (c := callF (d + 1)) E3 rfl sc3 (fun _ _ => rfl) fun A outer s H E hr => d3 gKd FsD hr⟩,
      f4 := ⟨_, fd4, ["term"], [], [], rfl, M4, F4.kp, B4, .nil, fun _ _ => .nil, okE (k := d + 2) (c := callF (d + 1)) E4 rfl sc4 (fun _ _ => rfl) fun A outer s H E hr => d4 gKd FsD hr⟩,
      f5 := ⟨_, fd5, ["term", "around", "taken"], [], [], rfl, M5, F5.kp, B5, .nil, fun _ _ => .nil, okE (k := d + 2) (c := callF (d + 1)) E5 rfl sc5 (fun _ _ => rfl) fun A outer s H E hr => d5 gKd FsD hr⟩,
      f6 := ⟨_, fd6, ["taken"], [], [], rfl, M6, F6.kp, B6, .nil, fun _ _ => .nil, okE (k := d + 2) (c := callF (d + 1)) E6 rfl sc6 (fun _ _ => rfl) fun A outer s H E hr => d6 gKd FsD hr⟩,
      f7 := ⟨_, fd7, ["one", "other"], [], [], rfl, M7, F7.kp, B7, .nil, fun _ _ => .nil, okE (k := d + 2) (c := callF (d + 1)) E7 rfl sc7 (fun _ _ => rfl) fun A outer s H E hr => d7 gKd FsD hr⟩,
      f8 := ⟨_, fd8, ["term"], [], [], rfl, M8, F8.kp, B8, .nil, fun _ _ => .nil, okE (k := d + 2) (c := callF (d + 1)) E8 rfl sc8 (fun _ _ => rfl) fun A outer s H E hr => d8 gKd FsD hr⟩,
      f9 := ⟨_, fd9, ["term", "by", "out"], [], [], rfl, M9, F9.kp, B9, .nil, fun _ _ => .nil, okE (k := d + 2) (c := callF (d + 1)) E9 rfl sc9 (fun _ _ => rfl) fun A outer s H E hr => d9 gKd FsD hr⟩,
      f9d1 := ⟨_, fd9, ["term", "by", "out"], ds9, _, rfl, M9, F9.kp, Bd9, V9, fun _ _ => .cons (.int _) .nil, okE (k := d + 2) (c := callF (d + 1)) E9 rfl sc9 (fun _ _ => rfl) fun A outer s H E hr => d9 gKd FsD hr⟩,
      f10 := ⟨_, fd10, ["term", "out", "other"], [], [], rfl, M10, F10.kp, B10, .nil, fun _ _ => .nil, okE (k := d + 2) (c := callF (d + 1)) E10 rfl sc10 (fun _ _ => rfl) fun A outer s H E hr => d10 gKd FsD hr⟩,
      f11 := ⟨_, fd11, ["term"], [], [], rfl, M11, F11.kp, B11, .nil, fun _ _ => .nil, okE (k := d + 2) (c := callF (d + 1)) E11 rfl sc11 (fun _ _ => rfl) fun A outer s H E hr => d11 gKd FsD hr⟩,
      f12 := ⟨_, fd12, ["term"], [], [], rfl, M12, F12.kp, B12, .nil, fun _ _ => .nil, okE (k := d + 2) (c := callF (d + 1)) E12 rfl sc12 (fun _ _ => rfl) fun A outer s H E hr => d12 gKd FsD hr⟩,
      f13 := ⟨_, fd13, ["term"], [], [], rfl, M13, F13.kp, B13, .nil, fun _ _ => .nil, okE (k := d + 2) (c := callF (d + 1)) E13 rfl sc13 (fun _ _ => rfl) fun A outer s H E hr => d13 gKd FsD hr⟩,
      f14 := ⟨_, fd14, ["term", "out"], [], [], rfl, M14, F14.kp, B14, .nil, fun _ _ => .nil, okE (k := d + 2) (c := callF (d + 1)) E14 rfl sc14 (fun _ _ => rfl) fun A outer s H E hr => d14 gKd FsD hr⟩,
      f14d1 := ⟨_, fd14, ["term", "out"], ds14, _, rfl, M14, F14.kp, Bd14, V14, fun _ _ => .cons (.int _) .nil, okE (k := d + 2) (c := callF (d + 1)) E14 rfl sc14 (fun _ _ => rfl) fun A outer s H E hr => d14 gKd FsD hr⟩,
      f15 := ⟨_, fd15, ["term"], [], [], rfl, M15, F15.kp, B15, .nil, fun _ _ => .nil, okE (k := d + 2) (c := callF (d + 1)) E15 rfl sc15 (fun _ _ => rfl) fun A outer s H E hr => d15 gKd FsD hr⟩,
      f16 := ⟨_, fd16, ["text"], [], [], rfl, M16, F16.kp, B16, .nil, fun _ _ => .nil, okE (k := d + 2) (c := callF (d + 1)) E16 rfl sc16 (fun _ _ => rfl) fun A outer s H E hr => d16 gKd FsD hr⟩,
      f17 := ⟨_, fd17, ["text", "place"], [], [], rfl, M17, F17.kp, B17, .nil, fun _ _ => .nil, okE (k := d + 2) (c := callF (d + 1)) E17 rfl sc17 (fun _ _ => rfl) fun A outer s H E hr => d17 gKd FsD hr⟩,
      f18 := ⟨_, fd18, ["term"], [], [], rfl, M18, F18.kp, B18, .nil, fun _ _ => .nil, okE (k := d + 2) (c := callF (d + 1)) E18 rfl sc18 (fun _ _ => rfl) fun A outer s H E hr => d18 gKd FsD hr⟩,
      f19 := ⟨_, fd19, ["term"], [], [], rfl, M19, F19.kp, B19, .nil, fun _ _ => .nil, okE (k := d + 2) (c := callF (d + 1)) E19 rfl sc19 (fun _ _ => rfl) fun A outer s H E hr => d19 gKd FsD hr⟩,
      f20 := ⟨_, fd20, ["cell"], [], [], rfl, M20, F20.kp, B20, .nil, fun _ _ => .nil, okE (k := d + 2) (c := callF (d + 1)) E20 rfl sc20 (fun _ _ => rfl) fun A outer s H E hr => d20 gKd FsD hr⟩,
      f21 := ⟨_, fd21, ["dice", "many"], [], [], rfl, M21, F21.kp, B21, .nil, fun _ _ => .nil, okE (k := d + 2) (c := callF (d + 1)) E21 rfl sc21 (fun _ _ => rfl) fun A outer s H E hr => d21 gKd FsD hr⟩,
      f22 := ⟨_, fd22, ["script", "most"], [], [], rfl, M22, F22.kp, B22, .nil, fun _ _ => .nil, okE (k := d + 2) (c := callF (d + 1)) E22 rfl sc22 (fun _ _ => rfl) fun A outer s H E hr => d22 gKd FsD hr⟩,
      f23 := ⟨_, fd23, ["what"], [], [], rfl, M23, F23.kp, B23, .nil, fun _ _ => .nil, okE (k := d + 2) (c := callF (d + 1)) E23 rfl sc23 (fun _ _ => rfl) fun A outer s H E hr => d23 gKd FsD hr⟩,
      f24 := ⟨_, fd24, ["dice", "deep", "names"], [], [], rfl, M24, F24.kp, B24, .nil, fun _ _ => .nil, okE (k := d + 2) (c := callF (d + 1)) E24 rfl sc24 (fun _ _ => rfl) fun A outer s H E hr => d24 gKd FsD hr⟩,
      f25 := ⟨_, fd25, ["dice", "deep", "names"], [], [], rfl, M25, F25.kp, B25, .nil, fun _ _ => .nil, okE (k := d + 2) (c := callF (d + 1)) E25 rfl sc25 (fun _ _ => rfl) fun A outer s H E hr => d25 gKd FsD hr⟩,
      f26 := ⟨_, fd26, ["term", "around"], [], [], rfl, M26, F26.kp, B26, .nil, fun _ _ => .nil, okE (k := d + 2) (c := callF (d + 1)) E26 rfl sc26 (fun _ _ => rfl) fun A outer s H E hr => d26 gKd FsD hr⟩,
      f27 := ⟨_, fd27, ["term", "by", "out"], [], [], rfl, M27, F27.kp, B27, .nil, fun _ _ => .nil, okE (k := d + 2) (c := callF (d + 1)) E27 rfl sc27 (fun _ _ => rfl) fun A outer s H E hr => d27 gKd FsD hr⟩,
      f28 := ⟨_, fd28, ["term", "out", "other"], [], [], rfl, M28, F28.kp, B28, .nil, fun _ _ => .nil, okE (k := d + 2) (c := callF (d + 1)) E28 rfl sc28 (fun _ _ => rfl) fun A outer s H E hr => d28 gKd FsD hr⟩,
      f29 := ⟨_, fd29, ["term", "table"], [], [], rfl, M29, F29.kp, B29, .nil, fun _ _ => .nil, okE (k := d + 2) (c := callF (d + 1)) E29 rfl sc29 (fun _ _ => rfl) fun A outer s H E hr => d29 gKd FsD hr⟩,
      f30 := ⟨_, fd30, ["term"], [], [], rfl, M30, F30.kp, B30, .nil, fun _ _ => .nil, okE (k := d + 2) (c := callF (d + 1)) E30 rfl sc30 (fun _ _ => rfl) fun A outer s H E hr => d30 gKd FsD hr⟩,
      f31 := ⟨_, fd31, ["term"], [], [], rfl, M31, F31.kp, B31, .nil, fun _ _ => .nil, okE (k := d + 2) (c := callF (d + 1)) E31 rfl sc31 (fun _ _ => rfl) fun A outer s H E hr => d31 gKd FsD hr⟩,
      f32 := ⟨_, fd32, ["term", "out"], [], [], rfl, M32, F32.kp, B32, .nil, fun _ _ => .nil, okE (k := d + 2) (c := callF (d + 1)) E32 rfl sc32 (fun _ _ => rfl) fun A outer s H E hr => d32 gKd FsD hr⟩,
      f33 := ⟨_, fd33, [], [], [], rfl, M33, F33.kp, B33, .nil, fun _ _ => .nil, okE (k := d + 2) (c := callF (d + 1)) E33 rfl sc33 (fun _ _ => rfl) fun A outer s H E hr => d33 gKd FsD hr⟩ }
    exact ⟨f0, fun j fn h => ⟨d + 2, rfl, lamAll gKd h1 j fn h⟩, h1, h3⟩
theorem fsK (gKd : Hd K mg base (gK K) (He.ga K "PlaceError") (cdK K) (tbK K)) (X : K.In h) (G : h.Ns mainGlobals mg) (c : He.SaysX fa fn [] tf exN w h K) (d : Nat) : Fs P w K mg base (gK K) (callF d) (lamP d) (callT d) (d + 2) :=
  let ⟨h1, h2, h3, h4⟩ := fsA gKd X G c d
  ⟨h1, h2, d, rfl, h4⟩
theorem lawK (gKd : Hd K mg base (gK K) (He.ga K "PlaceError") (cdK K) (tbK K)) (X : K.In h) (G : h.Ns mainGlobals mg) (c : He.SaysX fa fn [] tf exN w h K) (d : Nat) (hp : ∀ ρ, ∃ S', eLaw (callF d) (lamP d) (callT d) ρ [] = .ok (.bl true) S') {fd : FuncData} (E : FunE K "law" (top 41) (He.fAd K ("law", none)) fd (.ref (cdK K 34))) :
    FnOk P w K mg base (L2.CX P w) (d + 3) (He.fAd K ("law", none)) fd ["script"] (spLaw (gK K) 17 (bLaw (callF d) (lamP d) (callT d))) :=
  okLaw (k := d + 2) (N := ["script", "dice", "due", "fresh", "value", "closed", "bits", "term", "other", "deep", "row", "body", "by", "out", "k", "one", "many"]) E rfl sc34 hp fun A outer s H E hr => dLaw gKd (fsK gKd X G c d) hr
end

abbrev RR : PySem.W.OpenRow := PySem.W.OpenLaw.row PySem.Challenge.rw_lambdastack_k02_terms_without_names
abbrev hk : PySem.W.Hook := He.hookX 4 fa fn [] tf exN
def ob (s : PySem.W.SharedT) : He.AlX := He.obsX 4 fa fn [] tf exN (HandSHeadRun.getT s)
theorem ob_eq (s : PySem.W.SharedT) : ob s = hk.obs s.abs := He.obsX_eq (HandSHeadRun.getT_eq s)
def names1 : List PySem.Str := ["__name__", "LambdaFault", "PlaceError", "free_names", "FREE_BASE", "to_places", "check_places", "from_places", "free_in", "named", "fresh_name", "same_but_names", "plain_names", "moved", "put_in", "step_here", "told_short", "told_within", "uses_of"]
def names2 : List PySem.Str := ["bits_of", "read_bits", "read_bits_from", "names_needed", "is_plain", "_law_dice", "_law_roll", "_law_rounds", "_law_told", "_law_term", "_law_closed", "_law_places", "_law_moved", "_law_put", "_law_other_names", "_law_text", "_law_bits", "_law_uses", "_law_plain"]
def names : List PySem.Str := names1 ++ names2
theorem run (w : World) : HandSHeadRun.RunEq RR (PySem.W.view RR.prog [41]) hk ob 3000 names w := by
  intro os
  kernel_rfl

def ρ0 : Env' := [some (.loc 0)] ++ List.replicate 16 none
def LoopOk : Prop := ∀ (ns : List Int) (so : SO), (so = .lst (ns.map PV.int) ∨ so = .rol (ns.map PV.int)) → ∃ ρ' S', bLaw (callF 138) (lamP 138) (callT 138) ρ0 [so] = .ok (.nx ρ') S'
theorem rps_ints {K : PySem.W.Frag} {μ : List Addr} {H : Hp} : ∀ ns : List Int, Rps K μ H (ns.map PV.int) (ns.map V.int)
  | [] => .nil
  | n :: ns => .cons (.int n) (rps_ints ns)
theorem lawAt {w : World} {mg : Str → Option Value} {f : Addr} {h : Heap} {K : PySem.W.Frag} (X : K.In h) (G : h.Ns mainGlobals mg) (hfa : mg ("law" : Str) = some (.ref f)) (c : He.SaysX fa fn [] tf exN w h K) (hl : LoopOk) (hp : ∀ ρ, ∃ S', eLaw (callF 138) (lamP 138) (callT 138) ρ [] = .ok (.bl true) S') :
    LamX.LawAtS PySem.Challenge.rw_lambdastack_k02_terms_without_names w K (L2.CX (PySem.Challenge.rw_lambdastack_k02_terms_without_names).prog w) 141 63 "script" mg f h := by
  have fc : ∀ {f : He.Fa}, f ∈ fa → f.ok K = true := fun hf => c.t.d.facts hf
  have e := hfa.symm.trans (He.glo_ok X G (fc (f := .glo "law") (List.mem_of_getElem? (i := 34) rfl)))
  cases e
  obtain ⟨fd, F⟩ := c.t.d.def_ 34 (d := dd34) rfl
  have b := FunD.bindsA (ps := ["script"]) F fun _ _ _ _ _ _ us hl => match us, hl with | [_], _ => rfl
  have cs : ∀ {Q : Addr × Addr → Prop}, (∀ p ∈ tf, Q (He.cT K p)) → ∀ p ∈ tf.map (He.cT K), Q p := fun {Q} hq p hp => by
    obtain ⟨p', h1, rfl⟩ := List.mem_map.mp hp
    exact hq p' h1
  refine ⟨fd, tf.map (He.cT K), spLaw (gK K) 17 (bLaw (callF 138) (lamP 138) (callT 138)), cs c.empty, cs c.out, cs fun p hp => PySem.W.codeHd_of_K X (c.hd p hp), fun s v => b s [v] rfl, fun H a ns hlen hbits hH hS => ?_, fun base Kb Gb TB => ?_⟩
  · have tabs : ∀ p ∈ (gK K).T, TabN H p := by
      have ht : ∀ p ∈ tf, H (He.cT K p).2 = some (.tbl #[]) := fun p hp => hH _ (List.mem_map.mpr ⟨p, hp, rfl⟩)
      intro p hp
      simp only [gK, List.mem_cons, List.not_mem_nil, or_false] at hp
      rcases hp with rfl | rfl | rfl
      · exact ⟨#[], ht _ (List.mem_of_getElem? (i := 0) rfl), True.intro⟩
      · exact LamX.TabS.nil (ht _ (List.mem_of_getElem? (i := 1) rfl))
      · exact LamX.TabS.nil (ht _ (List.mem_of_getElem? (i := 2) rfl))
    have fin : ∀ so : SO, (so = .lst (ns.map PV.int) ∨ so = .rol (ns.map PV.int)) → Ro (gK K) [a] H a so → spLaw (gK K) 17 (bLaw (callF 138) (lamP 138) (callT 138)) [.ref a] H (fun v _ => v = .bl true) fun _ _ _ => False := fun so hso ro => by
      refine ⟨rfl, ⟨[a], [so], [.loc 0], ⟨rfl, fun l l' x o o' e1 e2 _ _ _ _ => ?_, fun l x o e1 e2 => ?_, tabs⟩, .cons (.loc rfl) .nil, hl ns so hso⟩, fun _ => rfl⟩
      · have h1 : l < 1 := (List.getElem?_eq_some_iff.mp e1).1
        have h2 : l' < 1 := (List.getElem?_eq_some_iff.mp e2).1
        omega
      · have h1 : l < 1 := (List.getElem?_eq_some_iff.mp e1).1
        obtain rfl : l = 0 := by omega
        cases e1
        cases e2
        exact ro
    rcases hS with (hS | ⟨o, hS⟩) | hS
    · exact fin _ (.inl rfl) ⟨_, hS, rps_ints ns⟩
    · exact fin _ (.inr rfl) ⟨_, .inl ⟨o, hS⟩, rps_ints ns⟩
    · exact fin _ (.inr rfl) ⟨_, .inr hS, rps_ints ns⟩
  · exact lawK (hdK X G c fun p hp => TB _ (List.mem_map.mpr ⟨p, hp, rfl⟩)) X G c 138 hp (FunE.of F)
theorem holds (hl : LoopOk) (hp : ∀ ρ, ∃ S', eLaw (callF 138) (lamP 138) (callT 138) ρ [] = .ok (.bl true) S') : PySem.Challenge.rw_lambdastack_k02_terms_without_names.Holds := by
  open PySem PySem.W PySem.Calls PyProof.Rows in
  w_on; o_law
  refine HandSHeadRun.head_any (r := RR) (q := PySem.W.view RR.prog [41]) (H := hk) (ob := ob) (M := 3000) (loose := names) (d := HandSHeadRun.topDef RR.prog 41) (kwd := []) ob_eq
    (by kernel_rfl) (fun s => by kernel_rfl) run (by kernel_rfl) (by kernel_rfl) (by kernel_rfl) (by rfl) (by first | assumption | decide +kernel) (by decide +kernel) ⟨rfl, rfl, rfl, rfl, rfl, by decide +kernel⟩ ?hw ?hc
  case hw => w_witness2
  case hc =>
    refine LamX.walk_ofTsE (l := PySem.Challenge.rw_lambdastack_k02_terms_without_names) (n := 63) (k := 141) (x := "script") (CX := fun w => L2.CX (PySem.Challenge.rw_lambdastack_k02_terms_without_names).prog w) rfl (by decide) (by kernel_rfl) ⟨rfl, by decide, by decide⟩ ?F ?C
    case F =>
      intro w mg fa h Y G hmg0
      obtain ⟨K, KX, c⟩ := Y
      have hmg : mg ("law" : PySem.Str) = some (.ref fa) := by
        have e : (HandSHeadRun.topDef RR.prog 41).name = ("law" : PySem.Str) := by kernel_rfl
        rw [← e]
        exact hmg0
      exact ⟨K, KX, lawAt KX G hmg c hl hp⟩
    case C =>
      intro w H s e s' ⟨_, _, _, _, _, _, _, _, _, _, _, _, z⟩
      exact z

def isT : R PV → Bool
  | .ok (.bl true) _ => true
  | _ => false
theorem isT_ok {r : R PV} (h : isT r = true) : ∃ S', r = .ok (.bl true) S' := by
  match r, h with
  | .ok (.bl true) S', _ => exact ⟨S', rfl⟩
theorem plain0 : isT (eLaw (callF 138) (lamP 138) (callT 138) [] []) = true := by decide +kernel
theorem plain : ∀ ρ, ∃ S', eLaw (callF 138) (lamP 138) (callT 138) ρ [] = .ok (.bl true) S' := fun ρ => isT_ok (r := eLaw (callF 138) (lamP 138) (callT 138) ρ []) plain0

def q1 (c : Oracle) : BF := (bOr (bCmp neP (eCall c 1 2 [(.tup [])] (eCons (eVar 7) eNil)) (eVar 2)) (bOr (bCmp notNP (eCall c 2 2 [(.int 0)] (eCons (eVar 2) eNil)) (eC .non)) (bOr (bCmp neP (eCall c 26 2 [] (eCons (eCall c 3 1 [] (eCons (eVar 2) eNil)) (eCons (eLst eNil) eNil))) (eVar 2)) (bOr (bCmp neP (eCall c 8 1 [] (eCons (eVar 7) eNil)) (eCall c 3 1 [] (eCons (eVar 2) eNil))) (bCmp neP (eCl lstP (eCons (eCall c 4 1 [] (eCons (eVar 2) eNil)) eNil)) (eCl lstP (eCons (eCall c 0 1 [] (eCons (eVar 7) eNil)) eNil)))))))
def q2 (c : Oracle) : BF := (bOr (bNot (bTru (eCall c 7 2 [] (eCons (eVar 7) (eCons (eVar 3) eNil))))) (bCmp neP (eCall c 7 2 [] (eCons (eVar 7) (eCons (eVar 8) eNil))) (eBin eqP (eVar 2) (eCall c 26 2 [] (eCons (eVar 8) (eCons (eLst eNil) eNil))))))
def q3 (c : Oracle) : BF := (bOr (bCmp neP (eCall c 18 1 [] (eCons (eVar 7) eNil)) (eVar 9)) (bOr (bCmp neP (eCall c 13 1 [] (eCons (eVar 2) eNil)) (eCall c 30 1 [] (eCons (eVar 2) eNil))) (bCmp neP (eCall c 12 1 [] (eCons (eVar 2) eNil)) (eIf (bAnd (bTru (eIs ["tuple"] (eVar 2))) (bCmp eqP (eBin ixP (eVar 2) (eC (.int 0))) (eC (.str [97, 116])))) (eSl (eCall c 30 1 [] (eCons (eVar 2) eNil)) (oSo (eC (.int 1))) (oSo (eC (.int (-1))))) (eCall c 30 1 [] (eCons (eVar 2) eNil))))))
def q4 (c : Oracle) : BF := (bOr (bCmp neP (eCall c 9 3 [] (eCons (eVar 11) (eCons (eVar 12) (eCons (eVar 13) eNil)))) (eCall c 27 3 [] (eCons (eVar 11) (eCons (eVar 12) (eCons (eVar 13) eNil))))) (bOr (bCmp neP (eCall c 10 3 [] (eCons (eVar 11) (eCons (eVar 13) (eCons (eVar 4) eNil)))) (eCall c 28 3 [] (eCons (eVar 11) (eCons (eVar 13) (eCons (eVar 4) eNil))))) (bCmp neP (eCall c 14 2 [] (eCons (eVar 11) (eCons (eVar 13) eNil))) (eCall c 32 2 [] (eCons (eVar 11) (eCons (eVar 13) eNil))))))
def q5 (c : Oracle) : BF := (bOr (bCmp neP (eCall c 11 1 [] (eCons (eTup (eCons (eC (.str [97, 116])) (eCons (eTup (eCons (eC (.str [102, 117, 110])) (eCons (eVar 11) eNil))) (eCons (eVar 4) eNil)))) eNil)) (eCall c 28 3 [] (eCons (eVar 11) (eCons (eC (.int 0)) (eCons (eVar 4) eNil))))) (bCmp neP (eCall c 10 3 [] (eCons (eCall c 9 3 [(.int 0)] (eCons (eVar 11) (eCons (eC (.int 1)) eNil))) (eCons (eC (.int 0)) (eCons (eVar 4) eNil)))) (eVar 11)))
def q6 (c : Oracle) (c2 : Oracle) : BF := (bOr (bCmp neP (eVar 6) (eCall c 31 1 [] (eCons (eVar 5) eNil))) (bOr (bCmp neP (eCall c 16 1 [] (eCons (eVar 6) eNil)) (eVar 5)) (bCmp neP (eLc (iRg1 (eCons (eCl lenP (eCons (eVar 6) eNil)) eNil)) (tgN 14) (bCmp neP (eTold (eCall c2 16 1 [] (eCons (eSl (eVar 6) oNo (oSo (eVar 14))) eNil)) catch_PlaceError [80, 108, 97, 99, 101, 69, 114, 114, 111, 114]) (eC (.str [80, 108, 97, 99, 101, 69, 114, 114, 111, 114]))) (eVar 14) [14]) (eLst eNil))))
def q7 (c : Oracle) : BF := (bOr (bCmp neP (eCall c 17 2 [] (eCons (eBin addP (eC (.str [49])) (eVar 6)) (eCons (eC (.int 1)) eNil))) (eTup (eCons (eVar 5) (eCons (eBin addP (eCl lenP (eCons (eVar 6) eNil)) (eC (.int 1))) eNil)))) (bCmp neP (eCall c 6 1 [] (eCons (eSl (eTup (eCons (eC (.str [97])) (eCons (eC (.str [98])) (eCons (eC (.str [99])) eNil)))) oNo (oSo (eVar 13))) eNil)) (eBin ixP (eC (.str [97, 98, 99, 100])) (eVar 13))))
def loopB (c : Oracle) (c2 : Oracle) : SF := (sSeq (sPar 7 8 (eCons (eCall c 24 3 [] (eCons (eVar 1) (eCons (eC (.int 4)) (eCons (eLst eNil) eNil)))) (eCons (eCall c 24 3 [] (eCons (eVar 1) (eCons (eC (.int 3)) (eCons (eLst eNil) eNil)))) eNil))) (sSeq (sAsg (eCall c 26 2 [] (eCons (eVar 7) (eCons (eLst eNil) eNil))) (tgN 2)) (sSeq (sIf (q1 c) (sSeq (sRet (eC (.bl false))) sNil) sNil) (sSeq (sAsg (eCall c 29 2 [] (eCons (eVar 7) (eCons eDn eNil))) (tgN 3)) (sSeq (sIf (q2 c) (sSeq (sRet (eC (.bl false))) sNil) sNil) (sSeq (sPar 9 10 (eCons (eC (.int 0)) (eCons (eLst (eCons (eTup (eCons (eVar 2) (eCons (eC (.int 0)) eNil))) eNil)) eNil))) (sSeq (whL (bCmp neP (eVar 10) (eLst eNil)) (sSeq (sAsg (eCl maxP2 (eCons (eBin addP (eLst (eCons (eVar 9) eNil)) (eLc (iOf (eVar 10)) (tgT 2 (tgCons (tgN 15) (tgCons (tgN 16) tgNil))) bYes (eVar 16) [15, 16])) eNil)) (tgN 9)) (sSeq (sAsg (eCl sumP (eCons (eLc (iOf (eVar 10)) (tgT 2 (tgCons (tgN 15) (tgCons (tgN 16) tgNil))) (bTru (eIs ["tuple"] (eVar 15))) (eIf (bCmp eqP (eBin ixP (eVar 15) (eC (.int 0))) (eC (.str [102, 117, 110]))) (eLst (eCons (eTup (eCons (eBin ixP (eVar 15) (eC (.int 1))) (eCons (eBin addP (eVar 16) (eC (.int 1))) eNil))) eNil)) (eIf (bCmp eqP (eBin ixP (eVar 15) (eC (.int 0))) (eC (.str [97, 116]))) (eLst (eCons (eTup (eCons (eBin ixP (eVar 15) (eC (.int 1))) (eCons (eVar 16) eNil))) (eCons (eTup (eCons (eBin ixP (eVar 15) (eC (.int 2))) (eCons (eVar 16) eNil))) eNil))) (eLst eNil))) [15, 16]) (eCons (eLst eNil) eNil))) (tgN 10)) sNil)) 100000) (sSeq (sIf (q3 c) (sSeq (sRet (eC (.bl false))) sNil) sNil) (sSeq (sPar3 11 12 13 (eCons (eCall c 26 2 [] (eCons (eVar 7) (eCons (eLst (eCons (eC (.str [120])) (eCons (eC (.str [121])) (eCons (eC (.str [122])) eNil)))) eNil))) (eCons (eCall c 21 2 [] (eCons (eVar 1) (eCons (eC (.int 4)) eNil))) (eCons (eCall c 21 2 [] (eCons (eVar 1) (eCons (eC (.int 3)) eNil))) eNil)))) (sSeq (sAsg (eCall c 26 2 [] (eCons (eVar 8) (eCons (eLst (eCons (eC (.str [121])) (eCons (eC (.str [122])) eNil))) eNil))) (tgN 4)) (sSeq (sIf (q4 c) (sSeq (sRet (eC (.bl false))) sNil) sNil) (sSeq (sIf (q5 c) (sSeq (sRet (eC (.bl false))) sNil) sNil) (sSeq (sAsg (eCall c 26 2 [] (eCons (eCall c 25 3 [] (eCons (eVar 1) (eCons (eC (.int 4)) (eCons (eLst eNil) eNil)))) (eCons (eLst eNil) eNil))) (tgN 5)) (sSeq (sAsg (eCall c 15 1 [] (eCons (eVar 5) eNil)) (tgN 6)) (sSeq (sIf (q6 c c2) (sSeq (sRet (eC (.bl false))) sNil) sNil) (sSeq (sIf (q7 c) (sSeq (sRet (eC (.bl false))) sNil) sNil) sNil))))))))))))))))
theorem bLaw_eq (c l c2) : bLaw c l c2 = (sSeq (sFor (iOf (eCall c 22 2 [] (eCons (eVar 0) (eCons (eC (.int 1)) eNil)))) (tgN 1) (loopB c c2)) sNil) := rfl
theorem F0 (d vs S) : callF (d + 1) 0 vs S = runB 3 (freeF (callF d) 0) vs S := rfl
theorem F1 (d vs S) : callF (d + 1) 1 vs S = runB 2 (toPF (callF d) 1) vs S := rfl
theorem F2 (d vs S) : callF (d + 1) 2 vs S = runB 2 (chkF (callF d) 2) vs S := rfl
theorem F3 (d vs S) : callF (d + 1) 3 vs S = runB 1 (fromF (callF d) 2 5 4) vs S := rfl
theorem F4 (d vs S) : callF (d + 1) 4 vs S = runB 2 (freeInF (callF d) 4) vs S := rfl
theorem F5 (d vs S) : callF (d + 1) 5 vs S = runB 4 (namedF (callF d) 5 6) vs S := rfl
theorem F6 (d vs S) : callF (d + 1) 6 vs S = runB 4 freshF vs S := rfl
theorem F7 (d vs S) : callF (d + 1) 7 vs S = runB 2 (sameF (callF d) 1) vs S := rfl
theorem F8 (d vs S) : callF (d + 1) 8 vs S = runB 1 (plainF (callF d) 3 1) vs S := rfl
theorem F9 (d vs S) : callF (d + 1) 9 vs S = runB 3 (movedF (callF d) 9) vs S := rfl
theorem F10 (d vs S) : callF (d + 1) 10 vs S = runB 3 (putF (callF d) 10 9) vs S := rfl
theorem F11 (d vs S) : callF (d + 1) 11 vs S = runB 1 (stepF (callF d) 10) vs S := rfl
theorem F12 (d vs S) : callF (d + 1) 12 vs S = runB 2 (shortF (callF d) 13) vs S := rfl
theorem F13 (d vs S) : callF (d + 1) 13 vs S = runB 1 (withinF (callF d) 13) vs S := rfl
theorem F14 (d vs S) : callF (d + 1) 14 vs S = runB 2 (usesF (callF d) 14) vs S := rfl
theorem F15 (d vs S) : callF (d + 1) 15 vs S = runB 1 (bitsF (callF d) 15) vs S := rfl
theorem F16 (d vs S) : callF (d + 1) 16 vs S = runB 3 (rbF (callF d) 17 2) vs S := rfl
theorem F17 (d vs S) : callF (d + 1) 17 vs S = runB 7 (rbfF (callF d) 17) vs S := rfl
theorem F18 (d vs S) : callF (d + 1) 18 vs S = runB 1 (needF (callF d) 18) vs S := rfl
theorem F20 (d vs S) : callF (d + 1) 20 vs S = runB 1 diceF vs S := rfl
theorem F21 (d vs S) : callF (d + 1) 21 vs S = runB 3 (rollF (callF d) 21) vs S := rfl
theorem F22 (d vs S) : callF (d + 1) 22 vs S = runB 4 (roundsF (callF d) 20) vs S := rfl
theorem F24 (d vs S) : callF (d + 1) 24 vs S = runB 5 (termF (callF d) 24 21) vs S := rfl
theorem F25 (d vs S) : callF (d + 1) 25 vs S = runB 5 (closedF (callF d) 25 21) vs S := rfl
theorem F26 (d vs S) : callF (d + 1) 26 vs S = runB 5 (placesF (callF d) 26) vs S := rfl
theorem F27 (d vs S) : callF (d + 1) 27 vs S = runB 3 (lmovedF (callF d) 27) vs S := rfl
theorem F28 (d vs S) : callF (d + 1) 28 vs S = runB 3 (lputF (callF d) 28 27) vs S := rfl
theorem F29 (d vs S) : callF (d + 1) 29 vs S = runB 5 (otherF (callF d) 29) vs S := rfl
theorem F30 (d vs S) : callF (d + 1) 30 vs S = runB 1 (ltextF (callF d) 30) vs S := rfl
theorem F31 (d vs S) : callF (d + 1) 31 vs S = runB 1 (lbitsF (callF d) 31) vs S := rfl
theorem F32 (d vs S) : callF (d + 1) 32 vs S = runB 2 (lusesF (callF d) 32) vs S := rfl
theorem hT (d : Nat) : callT (d + 2) = callF d := rfl
theorem rolls (d : Nat) : RollOk (callF (d + 1)) 21 := .of (F21 d)
theorem dices (d : Nat) : DiceOk (callF (d + 1)) 20 := .of (F20 d)
/-! the loop by rows -/
def depL (n : Nat) : SF := whL (bCmp neP (eVar 10) (eLst eNil)) (sSeq (sAsg (eCl maxP2 (eCons (eBin addP (eLst (eCons (eVar 9) eNil)) (manyE 10 15 16)) eNil)) (tgN 9)) (sSeq (sAsg (eCl sumP (eCons (eLc (iOf (eVar 10)) (tgT 2 (tgCons (tgN 15) (tgCons (tgN 16) tgNil))) (bTru (eIs ["tuple"] (eVar 15))) (kidsE 15 16) [15, 16]) (eCons (eLst eNil) eNil))) (tgN 10)) sNil)) n
theorem PT.dat : ∀ t : PT, t.Ok → Dat (t.dep + 1) t.pv
  | .fr s, h => .str _ (Gd.ok h)
  | .num k, h => .int _ _
  | .pl i, h => .tup (n := 0) (.of fun x hx => by
    simp only [List.mem_cons, List.not_mem_nil, or_false] at hx
    rcases hx with rfl | rfl
    · exact .str _ (by rfl)
    · exact .int _ _)
  | .fn b, h => .tup (.of fun x hx => by
    simp only [List.mem_cons, List.not_mem_nil, or_false] at hx
    rcases hx with rfl | rfl
    · exact .str _ (by rfl)
    · exact PT.dat b h)
  | .ap a b, h => .tup (.of fun x hx => by
    simp only [List.mem_cons, List.not_mem_nil, or_false] at hx
    rcases hx with rfl | rfl | rfl
    · exact .str _ (by rfl)
    · exact (PT.dat a h.1).le (by have : (PT.ap a b).dep = max a.dep b.dep + 1 := rfl; omega)
    · exact (PT.dat b h.2).le (by have : (PT.ap a b).dep = max a.dep b.dep + 1 := rfl; omega))
theorem rv_dat {n : Nat} {row : Ev.Row} (h : ∀ p ∈ row, p.1.dep < n ∧ p.1.Ok) : DatL (n + 1) (rv row) := .of fun x hx => by
  obtain ⟨p, hp, rfl⟩ := List.mem_map.mp hx
  obtain ⟨h1, h2⟩ := h p hp
  refine .tup (.of fun y hy => ?_)
  simp only [List.mem_cons, List.not_mem_nil, or_false] at hy
  rcases hy with rfl | rfl
  · exact (PT.dat p.1 h2).le (by omega)
  · exact .int _ _
theorem kids_len (row : Ev.Row) : (row.flatMap kids).length ≤ 2 * row.length := by
  induction row with
  | nil => simp
  | cons p r ih =>
    rw [List.flatMap_cons, List.length_append, List.length_cons]
    have : (kids p).length ≤ 2 := by
      obtain ⟨t, m⟩ := p
      cases t <;> simp [kids]
    omega
theorem kids_ok {n : Nat} {row : Ev.Row} (h : ∀ p ∈ row, p.1.dep < n + 1 ∧ p.1.Ok) : ∀ p ∈ row.flatMap kids, p.1.dep < n ∧ p.1.Ok := by
  intro k hk
  obtain ⟨p, hp, hk⟩ := List.mem_flatMap.mp hk
  obtain ⟨h1, h2⟩ := h p hp
  obtain ⟨t, m⟩ := p
  cases t with
  | fr s => nomatch hk
  | num s => nomatch hk
  | pl s => nomatch hk
  | fn b =>
    rw [List.mem_singleton.mp hk]
    have : b.dep + 1 < n + 1 := h1
    exact ⟨by show b.dep < n; omega, h2⟩
  | ap a b =>
    have h1 : max a.dep b.dep + 1 < n + 1 := h1
    simp only [kids, List.mem_cons, List.not_mem_nil, or_false] at hk
    rcases hk with rfl | rfl
    · exact ⟨by show a.dep < n; omega, h2.1⟩
    · exact ⟨by show b.dep < n; omega, h2.2⟩
theorem dep_l {x0 x1 x2 x3 x4 x5 x6 x7 x8 x11 x12 x13 x14 x15 x16 : Option PV} {Q : Fl → Store → Prop} : ∀ (n fuel : Nat) (S : Store) (l d : Nat) (row : Ev.Row), (∀ p ∈ row, p.1.dep < n ∧ p.1.Ok) → n < fuel → n ≤ 10 → row.length * 2 ^ n ≤ 4096 → S[l]? = some (.lst (rv row)) →
    (∀ l' S', Ext S S' → Q (.nx [x0, x1, x2, x3, x4, x5, x6, x7, x8, some (.int (deepR d row : Nat)), some (.loc l'), x11, x12, x13, x14, x15, x16]) S') →
    WS (depL fuel [x0, x1, x2, x3, x4, x5, x6, x7, x8, some (.int (d : Nat)), some (.loc l), x11, x12, x13, x14, x15, x16] S) Q
  | n, 0, S, l, d, row, _, h, _, _, _, _ => absurd h (Nat.not_lt_zero _)
  | n, fuel + 1, S, l, d, [], hr, hn, h10, hz, hS, q => by
    refine wwhile (wbCmp (wVar rfl (wLst (wNil ⟨by show 0 ≤ LINE; decide, ?_⟩))))
    refine ⟨_, _, neLstNil (rv_dat hr) (by omega) (grown hS) lastS, ?_⟩
    refine itF rfl ?_
    exact q _ _ (Ext.push .refl _)
  | 0, fuel + 1, S, l, d, p :: row, hr, hn, h10, hz, hS, q => absurd (hr p (by simp)).1 (Nat.not_lt_zero _)
  | n + 1, fuel + 1, S, l, d, p :: row, hr, hn, h10, hz, hS, q => by
    have hp2 : 0 < 2 ^ n := Nat.pow_pos (by decide)
    have hz2 : (p :: row).length * 2 ^ (n + 1) = 2 * ((p :: row).length * 2 ^ n) := by rw [Nat.pow_succ]; rw [← Nat.mul_assoc]; omega
    have hlen : (p :: row).length ≤ 4096 := by
      have : (p :: row).length * 1 ≤ (p :: row).length * 2 ^ n := Nat.mul_le_mul_left _ hp2
      omega
    have hlen' : row.length + 1 ≤ 4096 := hlen
    have ih : ∀ (S1 : Store) (l1 : Nat), Ext S S1 → S1[l1]? = some (.lst (rv ((p :: row).flatMap kids))) → WS (depL fuel [x0, x1, x2, x3, x4, x5, x6, x7, x8, some (.int (manyM d (p :: row) : Nat)), some (.loc l1), x11, x12, x13, x14, x15, x16] S1) Q := fun S1 l1 hx h1 => by
      refine dep_l n fuel S1 l1 (manyM d (p :: row)) ((p :: row).flatMap kids) (kids_ok hr) (by omega) (by omega) ?_ h1 fun l' S' hx2 => ?_
      · have hk := kids_len (p :: row)
        have : ((p :: row).flatMap kids).length * 2 ^ n ≤ (2 * (p :: row).length) * 2 ^ n := Nat.mul_le_mul_right _ hk
        rw [Nat.mul_assoc] at this
        omega
      · rw [deep_step]
        exact q l' S' (hx.trans hx2)
    refine wwhile (wbCmp (wVar rfl (wLst (wNil ⟨by show 0 ≤ LINE; decide, ?_⟩))))
    refine ⟨_, _, neLstNil (rv_dat hr) (by omega) (grown hS) lastS, ?_⟩
    refine itT rfl ?_
    refine wsSeq (wsSet (wCl (wCons (wBin (wLst (wCons (wVar rfl (wNil ⟨by show 1 ≤ LINE; decide, ?_⟩))))))))
    unfold manyE
    refine wLc (wOf (wVar rfl ⟨_, srcL (grown (grown hS)), ?_⟩))
    refine many_loop (row := p :: row) (by show 15 < 17; decide) (by show 16 < 17; decide) (grown (grown hS)) (by omega) ?_ (p :: row) [] _ rfl (by rw [fuelL (grown (grown hS))]; simp)
    refine .mk (addL (grown lastS) lastS (small (by simp; omega))) (wNil ?_)
    have hm : maxP2 [.loc (S ++ [SO.lst []] ++ [SO.lst [PV.int (d : Nat)]] ++ [SO.lst ((p :: row).map fun p => PV.int (p.2 : Nat))]).length] (S ++ [SO.lst []] ++ [SO.lst [PV.int (d : Nat)]] ++ [SO.lst ((p :: row).map fun p => PV.int (p.2 : Nat))] ++ [SO.lst ([PV.int (d : Nat)] ++ (p :: row).map fun p => PV.int (p.2 : Nat))]) = some (.int (manyM d (p :: row) : Nat), (S ++ [SO.lst []] ++ [SO.lst [PV.int (d : Nat)]] ++ [SO.lst ((p :: row).map fun p => PV.int (p.2 : Nat))] ++ [SO.lst ([PV.int (d : Nat)] ++ (p :: row).map fun p => PV.int (p.2 : Nat))])) := by
      unfold maxP2
      simp only [lastS]
      have e : [PV.int (d : Nat)] ++ (p :: row).map (fun p => PV.int (p.2 : Nat)) = (((d : Int) :: (p :: row).map fun p => (p.2 : Int)).map PV.int) := by simp
      rw [e, Ev.ints_map]
      simp only [List.isEmpty_cons, Bool.false_eq_true, if_false]
      rw [max_many]
    refine .mk hm ?_
    have hS4 : (S ++ [SO.lst []] ++ [SO.lst [PV.int (d : Nat)]] ++ [SO.lst ((p :: row).map fun p => PV.int (p.2 : Nat))] ++ [SO.lst ([PV.int (d : Nat)] ++ (p :: row).map fun p => PV.int (p.2 : Nat))])[l]? = some (.lst (rv (p :: row))) := grown (grown (grown (grown hS)))
    have hx4 : Ext S (S ++ [SO.lst []] ++ [SO.lst [PV.int (d : Nat)]] ++ [SO.lst ((p :: row).map fun p => PV.int (p.2 : Nat))] ++ [SO.lst ([PV.int (d : Nat)] ++ (p :: row).map fun p => PV.int (p.2 : Nat))]) := (((Ext.refl.push _).push _).push _).push _
    generalize (S ++ [SO.lst []] ++ [SO.lst [PV.int (d : Nat)]] ++ [SO.lst ((p :: row).map fun p => PV.int (p.2 : Nat))] ++ [SO.lst ([PV.int (d : Nat)] ++ (p :: row).map fun p => PV.int (p.2 : Nat))]) = S4 at hS4 hx4
    refine wsSeq (wsSet (wCl (wCons ?_)))
    refine wLc (wOf (wVar rfl ⟨_, srcL hS4, ?_⟩))
    refine kids_loop (row := p :: row) (by show 15 < 17; decide) (by show 16 < 17; decide) (by decide) hS4 (by omega) (fun S5 acc yss hx5 hd hl hf => ?_) (p :: row) [] _ _ [] [] rfl (by rw [fuelL hS4]; simp) (Ext.push .refl _) lastS (Nat.le_refl _) trivial rfl
    refine wCons (wLst (wNil ⟨by show 0 ≤ LINE; decide, wNil ?_⟩))
    have hsum : ∃ l6 S6, sumP [.loc S4.length, .loc S5.length] (S5 ++ [.lst []]) = some (.loc l6, S6) ∧ Ext S5 S6 ∧ S6[l6]? = some (.lst (rv ((p :: row).flatMap kids))) := by
      unfold sumP
      simp only [grown hd, lastS, (hl.imp fun i o _ ho => grown (J := [SO.lst []]) ho).of, hf]
      have hk := kids_len (p :: row)
      rw [if_pos (small (by simp only [List.length_map, List.length_nil]; omega))]
      cases acc with
      | nil =>
        refine ⟨_, _, rfl, Ext.push .refl _, ?_⟩
        cases yss with
        | nil =>
          rw [lastS, ← hf]
          rfl
        | cons y ys => exact hl.elim
      | cons a as =>
        refine ⟨_, _, rfl, Ext.push (Ext.push .refl _) _, ?_⟩
        rw [lastS]
        rfl
    obtain ⟨l6, S6, e6, hx6, h6⟩ := hsum
    refine .mk e6 ?_
    refine wsNil ?_
    exact ih S6 l6 ((hx4.trans hx5).trans hx6) h6

/-! what the drawn terms are -/
theorem toP_all {p f : Wd → Prop} : ∀ (t : Ev.Tm) (e : List Wd), t.All p f → e.length + t.dep ≤ 100 → (toP t e).All p (· < 100)
  | .nm s, e, h, hl => by
    have hl : e.length + 0 ≤ 100 := hl
    unfold toP
    cases hf : e.findIdx? (· == s) with
    | some i => exact Nat.lt_of_lt_of_le (find_lt hf) (by omega)
    | none => exact h
  | .num k, e, h, hl => h
  | .fn s b, e, h, hl => by
    have hl : e.length + (b.dep + 1) ≤ 100 := hl
    exact toP_all b (s :: e) h.2 (by simp; omega)
  | .ap a b, e, h, hl => by
    have hl : e.length + (max a.dep b.dep + 1) ≤ 100 := hl
    exact ⟨toP_all a e h.1 (by omega), toP_all b e h.2 (by omega)⟩
theorem cl_all : ∀ (t : Ev.Tm) (e : List Wd), t.Cl e → (∀ s ∈ e, s ∈ xyzu) → t.All (· ∈ xyzu) (· ∈ xyzu)
  | .nm s, e, h, he => he s h
  | .num k, e, h, he => h.elim
  | .fn s b, e, h, he => ⟨h.1, cl_all b (s :: e) h.2 fun u hu => by
    rcases List.mem_cons.mp hu with rfl | hu
    · exact h.1
    · exact he u hu⟩
  | .ap a b, e, h, he => ⟨cl_all a e h.1 he, cl_all b e h.2 he⟩
theorem cl_pu : ∀ (t : Ev.Tm) (e : List Wd), t.Cl e → e.length + t.dep ≤ 100 → (toP t e).Pu
  | .nm s, e, h, hl => by
    have hl : e.length + 0 ≤ 100 := hl
    obtain ⟨i, hi⟩ := mem_find.mpr h
    unfold toP
    rw [hi]
    exact Nat.lt_of_lt_of_le (find_lt hi) (by omega)
  | .num k, e, h, hl => h.elim
  | .fn s b, e, h, hl => by
    have hl : e.length + (b.dep + 1) ≤ 100 := hl
    exact cl_pu b (s :: e) h.2 (by simp; omega)
  | .ap a b, e, h, hl => by
    have hl : e.length + (max a.dep b.dep + 1) ≤ 100 := hl
    exact ⟨cl_pu a e h.1 (by omega), cl_pu b e h.2 (by omega)⟩
theorem xyz_gd {s : Wd} (h : s ∈ xyz) : Gd s := xyzu_gd (xyz_u h)
abbrev Dr (t : Ev.Tm) : Prop := t.All (· ∈ xyz) (· ∈ xyzu)
theorem Dr.ok {t : Ev.Tm} (h : Dr t) : t.All (fun s => okS s = true) (fun s => okS s = true) := h.imp (fun s h => (xyz_gd h).ok) fun s h => (xyzu_gd h).ok
theorem Dr.pok {t : Ev.Tm} (h : Dr t) (e : List Wd) (hl : e.length + t.dep ≤ 100) : (toP t e).Ok := (toP_all t e h hl).imp (fun s h => xyz_gd h) fun i h => h
theorem free_few {t : Ev.Tm} (h : Dr t) : t.free.length ≤ 3 := sub_len t.free xyz t.free_nodup (Ev.Tm.free_all h)
theorem tm_dat : ∀ t : Ev.Tm, t.All (fun s => okS s = true) (fun s => okS s = true) → Dat (t.dep + 1) t.pv
  | .nm s, h => .str _ h
  | .num k, h => .int _ _
  | .fn s b, h => .tup (.of fun x hx => by
    simp only [List.mem_cons, List.not_mem_nil, or_false] at hx
    rcases hx with rfl | rfl | rfl
    · exact .str _ (by rfl)
    · exact .str _ h.1
    · exact tm_dat b h.2)
  | .ap a b, h => .tup (.of fun x hx => by
    simp only [List.mem_cons, List.not_mem_nil, or_false] at hx
    rcases hx with rfl | rfl | rfl
    · exact .str _ (by rfl)
    · exact (tm_dat a h.1).le (by have : (Ev.Tm.ap a b).dep = max a.dep b.dep + 1 := rfl; omega)
    · exact (tm_dat b h.2).le (by have : (Ev.Tm.ap a b).dep = max a.dep b.dep + 1 := rfl; omega))
abbrev Nmd (t : PT) : Prop := t.All (fun s => okS s = true) (fun _ => True)
theorem pt_dat : ∀ t : PT, Nmd t → Dat (t.dep + 1) t.pv
  | .fr s, h => .str _ h
  | .num k, h => .int _ _
  | .pl i, h => .tup (n := 0) (.of fun x hx => by
    simp only [List.mem_cons, List.not_mem_nil, or_false] at hx
    rcases hx with rfl | rfl
    · exact .str _ (by rfl)
    · exact .int _ _)
  | .fn b, h => .tup (.of fun x hx => by
    simp only [List.mem_cons, List.not_mem_nil, or_false] at hx
    rcases hx with rfl | rfl
    · exact .str _ (by rfl)
    · exact pt_dat b h)
  | .ap a b, h => .tup (.of fun x hx => by
    simp only [List.mem_cons, List.not_mem_nil, or_false] at hx
    rcases hx with rfl | rfl | rfl
    · exact .str _ (by rfl)
    · exact (pt_dat a h.1).le (by have : (PT.ap a b).dep = max a.dep b.dep + 1 := rfl; omega)
    · exact (pt_dat b h.2).le (by have : (PT.ap a b).dep = max a.dep b.dep + 1 := rfl; omega))
theorem mv_nmd (m : Nat) : ∀ (t : PT) (o : Nat), Nmd t → Nmd (t.mv m o)
  | .fr s, _, h => h
  | .num k, _, h => h
  | .pl i, o, h => by unfold PT.mv; split <;> trivial
  | .fn b, o, h => mv_nmd m b (o + 1) h
  | .ap a b, o, h => ⟨mv_nmd m a o h.1, mv_nmd m b o h.2⟩
theorem put_nmd {v : PT} (hv : Nmd v) : ∀ (t : PT) (o : Nat), Nmd t → Nmd (t.put v o)
  | .fr s, _, h => h
  | .num k, _, h => h
  | .pl i, o, h => by
    unfold PT.put
    split
    · exact mv_nmd o v 0 hv
    · split <;> trivial
  | .fn b, o, h => put_nmd hv b (o + 1) h
  | .ap a b, o, h => ⟨put_nmd hv a o h.1, put_nmd hv b o h.2⟩
theorem Dr.nmd {t : Ev.Tm} (h : Dr t) (e : List Wd) (hl : e.length + t.dep ≤ 100) : Nmd (toP t e) := (toP_all t e h hl).imp (fun s h => (xyz_gd h).ok) fun i h => trivial
theorem dat_eq {n : Nat} {v w : PV} (h : Dat n v) (k : Dat n w) (hn : n ≤ 64) : ∃ b, ∀ S, eqP v w S = some (.bl b, S) := by
  obtain ⟨d, hd⟩ := h
  obtain ⟨e, he⟩ := k
  refine ⟨PyData.eqv d e, fun S => ?_⟩
  unfold eqP
  simp only [hd S 64 hn, he S 64 hn]
theorem dat_same {n : Nat} {v : PV} (h : Dat n v) (hn : n ≤ 64) (S : Store) : eqP v v S = some (.bl true, S) := by
  obtain ⟨d, hd⟩ := h
  exact eqSame (hd S 64 hn) (hd S 64 hn)
theorem same_dat {v : PV} {n : Nat} (h : Dat n v) (hn : n ≤ 64) (S : Store) : ∃ c S3, neP v v S = some (.bl c, S3) ∧ c = false ∧ S3 = S := ⟨false, S, h.ne hn S, rfl, rfl⟩
section
variable {x0 x1 x2 x3 x4 x5 x6 x7 x8 x9 x10 x11 x12 x13 x14 x15 x16 : Option PV} {t u : Ev.Tm}
theorem from_ok (ht : Dr t) (hd : t.dep ≤ 4) (d : Nat) (h : 20 ≤ d) : PureJ (callF (d + 1)) 3 [(toP t []).pv] (named (toP t []) [] t.free).pv := by
  have h1 := toP_free0 t
  have h2 := toP_dep t []
  have h3 := free_few ht
  have := from_s (i := 3) F3 F2 F5 F6 F4 (toP t []) d (by omega) (toP_sc t []) (by rw [h1]; omega) (by omega)
  rw [h1] at this
  exact this
theorem named_okS (ht : Dr t) (hd : t.dep ≤ 4) : (named (toP t []) [] t.free).All (fun s => okS s = true) (fun s => okS s = true) :=
  named_all (p := fun s => okS s = true) (q := (· < 100)) (fun s h => h.ok) _ _ _ ((Dr.pok ht [] (by simp; omega)).imp (fun s h => h.ok) fun i h => h) (toP_sc t []) (fun s h => nomatch h) (by have := free_few ht; rw [toP_dep]; simp; omega)
theorem named_rt (ht : Dr t) (hd : t.dep ≤ 4) : toP (named (toP t []) [] t.free) [] = toP t [] :=
  named_back _ _ _ (toP_sc t []) List.nodup_nil (fun s h => by rw [toP_free0] at h; exact h) (fun s h => nomatch h) (by have := free_few ht; rw [toP_dep]; simp; omega)
theorem q1_s (ht : Dr t) (hd : t.dep ≤ 4) (S : Store) : WE (q1 (callF 138) [x0, x1, some (toP t []).pv, x3, x4, x5, x6, some t.pv, x8, x9, x10, x11, x12, x13, x14, x15, x16] S) fun c S' => c = false ∧ Ext S S' := by
  have hp := toP_dep t []
  have hD : Dat 6 (toP t []).pv := (PT.dat _ (Dr.pok ht [] (by simp; omega))).le (by omega)
  have hnd := named_dep (toP t []) [] t.free
  unfold q1
  refine wbOr ?_
  walk_at "ev"
  refine ⟨rfl, (toP_s F1 t [] 138 (by omega) (by simp; omega)).use ?_⟩
  walk_at "ev"
  refine ⟨_, _, hD.ne (by omega) S, itF rfl ?_⟩
  walk_at "ev"
  refine ⟨rfl, (chk_s F2 (toP t []) 0 138 (by omega) (toP_sc t [])).use ?_⟩
  walk_at "ev"
  refine ⟨_, _, rfl, itF rfl ?_⟩
  walk_at "ev"
  refine ⟨rfl, (from_ok ht hd 137 (by omega)).use fun J1 => ?_⟩
  walk_at "ev"
  refine ⟨by show 0 ≤ LINE; decide, ?_⟩
  walk_at "ev"
  refine ⟨rfl, ?_⟩
  refine (places_s F26 _ [] 138 _ _ (by omega) (by simp; omega) (named_okS ht hd) (fun s h => nomatch h) lastS).imp ?_
  rintro _ S2 ⟨rfl, hx2⟩
  rw [named_rt ht hd]
  walk_at "ev"
  refine ⟨_, _, hD.ne (by omega) S2, itF rfl ?_⟩
  have hND : Dat 5 (named (toP t []) [] t.free).pv:= (tm_dat _ (named_okS ht hd)).le (by omega)
  walk_at "ev"
  refine ⟨rfl, ?_⟩
  show WE (callF (137 + 1) 8 [t.pv] S2) _
  rw [F8]
  refine wRun ?_
  unfold plainF
  refine wsSeq (wsRet (wCall (wCons (wCall (wCons (wVar rfl (wNil ⟨rfl, ?_⟩)))))))
  refine (toP_s F1 t [] 137 (by omega) (by simp; omega)).use ?_
  refine wNil ⟨rfl, ?_⟩
  refine (from_ok ht hd 136 (by omega)).use fun J3 => ?_
  show WE _ _
  walk_at "ev"
  refine ⟨rfl, (from_ok ht hd 137 (by omega)).use fun J4 => ?_⟩
  refine ⟨_, _, hND.ne (by omega) _, itF rfl ?_⟩
  walk_at "ev"
  refine ⟨rfl, (freeIn_s F4 (toP t []) 138 (by omega) (by omega)).use fun J5 => ?_⟩
  walk_at "ev"
  refine .mk (lstT _ _) ?_
  walk_at "ev"
  refine ⟨rfl, (free_s F0 t 138 (by omega) (by omega) ht.ok).use fun J6 => ?_⟩
  walk_at "ev"
  refine .mk (lstT _ _) ?_
  rw [toP_free0]
  refine ⟨_, _, neLists (datL_words fun s hs => (xyz_gd (Ev.Tm.free_all ht s hs)).ok) (by omega) (grown (grown lastS)) lastS, rfl, ?_⟩
  exact Ext.push (Ext.more (Ext.push (Ext.more (Ext.more (Ext.more (Ext.trans (Ext.push (Ext.more .refl _) _) hx2) _) _) _) _) _) _
theorem same_s {p1 p2 : PT} {t1 t2 : Ev.Tm} (e1 : toP t1 [] = p1) (e2 : toP t2 [] = p2) (d : Nat) (h1 : t1.dep < d) (h2 : t2.dep < d) (hd1 : t1.dep ≤ 50) (hd2 : t2.dep ≤ 50) {b : Bool} (hb : ∀ S, eqP p1.pv p2.pv S = some (.bl b, S)) : Pure (callF (d + 1)) 7 [t1.pv, t2.pv] (.bl b) := .of (F7 d _) fun S => by
  subst e1 e2
  refine wRun ?_
  unfold sameF
  refine wsSeq (wsRet (wBin (wCall (wCons (wVar rfl (wNil ⟨rfl, ?_⟩))))))
  refine (toP_s F1 t1 [] d (by omega) (by simp; omega)).use ?_
  refine wCall (wCons (wVar rfl (wNil ⟨rfl, ?_⟩)))
  refine (toP_s F1 t2 [] d (by omega) (by simp; omega)).use ?_
  exact .mk (hb S) ⟨rfl, rfl⟩
theorem q2_s (ht : Dr t) (hd : t.dep ≤ 4) (hu : Dr u) (hd2 : u.dep ≤ 4) (S : Store) : WE (q2 (callF 138) [x0, x1, some (toP t []).pv, some (other t []).pv, x4, x5, x6, some t.pv, some u.pv, x9, x10, x11, x12, x13, x14, x15, x16] S) fun c S' => c = false ∧ Ext S S' := by
  have hp := toP_dep t []
  have hp2 := toP_dep u []
  have hD : Dat 6 (toP t []).pv := (pt_dat _ (ht.nmd [] (by simp; omega))).le (by omega)
  have hD2 : Dat 6 (toP u []).pv := (pt_dat _ (hu.nmd [] (by simp; omega))).le (by omega)
  obtain ⟨b, hb⟩ := dat_eq hD hD2 (by omega)
  have ho : toP (other t []) [] = toP t [] := other_toP t [] [] [] ⟨fun s _ => rfl, fun s n h => (nomatch h), fun n h => (nomatch h)⟩ (by simp; omega) (ht.imp (fun s hs => by
    have : s = [120] ∨ s = [121] ∨ s = [122] := by simpa using hs
    rcases this with rfl | rfl | rfl <;> simp) fun _ _ => trivial)
  have hod := other_dep t []
  unfold q2
  refine wbOr ?_
  walk_at "ev"
  refine ⟨rfl, ?_⟩
  refine (same_s (t1 := t) (t2 := other t []) rfl ho 137 (by omega) (by omega) (by omega) (by omega) (fun S => dat_same hD (by omega) S)).use ?_
  refine ⟨_, rfl, ?_⟩
  refine itF rfl ?_
  walk_at "ev"
  refine ⟨rfl, ?_⟩
  refine (same_s (t1 := t) (t2 := u) rfl rfl 137 (by omega) (by omega) (by omega) (by omega) hb).use ?_
  walk_at "ev"
  refine ⟨by show 0 ≤ LINE; decide, ?_⟩
  walk_at "ev"
  refine ⟨rfl, ?_⟩
  refine (places_s F26 u [] 138 _ _ (by omega) (by simp; omega) hu.ok (fun s h => nomatch h) lastS).imp ?_
  rintro _ S2 ⟨rfl, hx2⟩
  refine .mk (hb S2) ?_
  refine ⟨_, _, (Dat.bl 0 b).ne (by omega) S2, rfl, ?_⟩
  exact Ext.trans (Ext.push .refl _) hx2
theorem deep0 (p : PT) : deepR 0 [(p, 0)] = p.need := by
  show max 0 (0 + p.need) = _
  omega
theorem q3_s (ht : Dr t) (hd : t.dep ≤ 4) (S : Store) : WE (q3 (callF 138) [x0, x1, some (toP t []).pv, x3, x4, x5, x6, some t.pv, x8, some (.int (deepR 0 [(toP t [], 0)] : Nat)), x10, x11, x12, x13, x14, x15, x16] S) fun c S' => c = false ∧ S' = S := by
  have hp := toP_dep t []
  have hok := ht.pok [] (by simp; omega)
  have hts : ∀ p : PT, p.Ok → p.dep ≤ 10 → okS p.text = true := fun p => by
    have : ∀ p : PT, p.Ok → okS p.text = true := fun p => by
      induction p with
      | fr s => intro h; exact Gd.ok h
      | num k => intro h; exact (istr_small (i := k) (by have : k < 9 := h; omega)).1
      | pl i => intro h; exact okS_app (by rfl) (istr_small (i := i) (by have : i < 100 := h; omega)).1
      | fn b ih => intro h; exact okS_app (by rfl) (ih h)
      | ap a b ih1 ih2 => intro h; exact okS_app (okS_app (okS_app (okS_app (by rfl) (ih1 h.1)) (by rfl)) (ih2 h.2)) (by rfl)
    exact fun h _ => this p h
  have hT := hts _ hok (by omega)
  unfold q3
  refine wbOr ?_
  walk_at "ev"
  refine ⟨rfl, (need_s F18 t [] 138 (by omega)).use ?_⟩
  walk_at "ev"
  rw [deep0]
  refine ⟨_, _, (Dat.int 0 _).ne (by omega) S, itF rfl ?_⟩
  refine wbOr ?_
  walk_at "ev"
  refine ⟨rfl, (within_s F13 (toP t []) 138 (by omega) (by omega) hok).use ?_⟩
  walk_at "ev"
  refine ⟨rfl, (ltext_s F30 (toP t []) 138 (by omega) (by omega) hok).use ?_⟩
  refine ⟨_, _, (Dat.str 0 hT).ne (by omega) S, itF rfl ?_⟩
  walk_at "ev"
  refine ⟨rfl, (short_s F12 F13 (toP t []) 137 (by omega) (by omega) hok).use ?_⟩
  generalize hq : toP t [] = p at *
  cases p with
  | fr s =>
    walk_at "evr"
    exact ⟨_, _, (Dat.str 0 hT).ne (by omega) S, rfl, rfl⟩
  | num s =>
    walk_at "evr"
    refine (ltext_s F30 (.num s) 138 (by show 0 < 138; decide) (by show 0 ≤ 10; decide) hok).use ?_
    exact ⟨_, _, (Dat.str 0 hT).ne (by omega) S, rfl, rfl⟩
  | pl s =>
    walk_at "evr"
    refine (ltext_s F30 (.pl s) 138 (by show 0 < 138; decide) (by show 0 ≤ 10; decide) hok).use ?_
    exact ⟨_, _, (Dat.str 0 hT).ne (by omega) S, rfl, rfl⟩
  | fn b =>
    walk_at "evr"
    refine (ltext_s F30 (.fn b) 138 (by omega) (by omega) hok).use ?_
    exact ⟨_, _, (Dat.str 0 hT).ne (by omega) S, rfl, rfl⟩
  | ap a b =>
    walk_at "evr"
    refine (ltext_s F30 (.ap a b) 138 (by omega) (by omega) hok).use ?_
    have hl := PT.text_le hok (by omega)
    have hs : slP (.str (PT.ap a b).text) (some 1) (some (-1)) S = some (.str (PT.ap a b).short, S) := by
      show (if (PT.ap a b).text.length ≤ LINE then some (PV.str (cutL (PT.ap a b).text (some 1) (some (-1))), S) else none) = _
      rw [if_pos (small (by omega))]
      have : (PT.ap a b).text = [40] ++ (a.text ++ [32] ++ b.text) ++ [41] := by simp [PT.text]
      rw [this, cut_in]
      rfl
    walk_at "evr"
    refine .mk hs ?_
    have ha : (PT.ap a b).dep = max a.dep b.dep + 1 := rfl
    have hsh : okS (PT.ap a b).short = true := okS_app (okS_app (hts a hok.1 (by omega)) (by rfl)) (hts b hok.2 (by omega))
    exact ⟨_, _, (Dat.str 0 hsh).ne (by omega) S, rfl, rfl⟩
theorem q4_s {B V : PT} {m o : Nat} (hB : Nmd B) (hV : Nmd V) (hb : B.dep ≤ 5) (hv : V.dep ≤ 5) (S : Store) : WE (q4 (callF 138) [x0, x1, x2, x3, some V.pv, x5, x6, x7, x8, x9, x10, some B.pv, some (.int (m : Nat)), some (.int (o : Nat)), x14, x15, x16] S) fun c S' => c = false ∧ S' = S := by
  have h1 := mv_dep m B o
  have h2 := put_dep V B o
  have D1 : Dat 12 (B.mv m o).pv := (pt_dat _ (mv_nmd m B o hB)).le (by omega)
  have D2 : Dat 12 (B.put V o).pv := (pt_dat _ (put_nmd hV B o hB)).le (by omega)
  unfold q4
  refine wbOr ?_
  walk_at "ev"
  refine ⟨rfl, (moved_s F9 m B o 138 (by omega)).use ?_⟩
  walk_at "ev"
  refine ⟨rfl, (lmoved_s F27 m B o 138 (by omega)).use ?_⟩
  refine ⟨_, _, D1.ne (by omega) S, itF rfl ?_⟩
  refine wbOr ?_
  walk_at "ev"
  refine ⟨rfl, (put_s F10 F9 V B o 138 (by omega)).use ?_⟩
  walk_at "ev"
  refine ⟨rfl, (lput_s F28 F27 V B o 138 (by omega)).use ?_⟩
  refine ⟨_, _, D2.ne (by omega) S, itF rfl ?_⟩
  walk_at "ev"
  refine ⟨rfl, (uses_s F14 B o 138 (by omega)).use ?_⟩
  walk_at "ev"
  refine ⟨rfl, (luses_s F32 B o 138 (by omega)).use ?_⟩
  exact ⟨_, _, (Dat.int 0 _).ne (by omega) S, rfl, rfl⟩
theorem q5_s {B V : PT} (hB : Nmd B) (hV : Nmd V) (hb : B.dep ≤ 5) (hv : V.dep ≤ 5) (S : Store) : WE (q5 (callF 138) [x0, x1, x2, x3, some V.pv, x5, x6, x7, x8, x9, x10, some B.pv, x12, x13, x14, x15, x16] S) fun c S' => c = false ∧ S' = S := by
  have h1 := mv_dep 1 B 0
  have h2 := put_dep V B 0
  have D1 : Dat 12 B.pv := (pt_dat _ hB).le (by omega)
  have D2 : Dat 12 (B.put V 0).pv := (pt_dat _ (put_nmd hV B 0 hB)).le (by omega)
  unfold q5
  refine wbOr ?_
  walk_at "ev"
  refine ⟨by show 2 ≤ LINE; decide, ?_⟩
  walk_at "ev"
  refine ⟨by show 3 ≤ LINE; decide, ?_⟩
  walk_at "ev"
  refine ⟨rfl, ?_⟩
  refine (show Pure (callF (137 + 1)) 11 ([(PT.ap (.fn B) V).pv] ++ []) (B.put V 0).pv from step_s F11 F10 F9 B V 137 (by omega)).use ?_
  walk_at "ev"
  refine ⟨rfl, ?_⟩
  refine (show Pure (callF 138) 28 ([B.pv, .int ((0 : Nat) : Int), V.pv] ++ []) (B.put V 0).pv from lput_s F28 F27 V B 0 138 (by omega)).use ?_
  refine ⟨_, _, D2.ne (by omega) S, itF rfl ?_⟩
  walk_at "ev"
  refine ⟨rfl, ?_⟩
  refine (show Pure (callF 138) 9 ([B.pv, .int ((1 : Nat) : Int)] ++ [.int ((0 : Nat) : Int)]) (B.mv 1 0).pv from moved_s F9 1 B 0 138 (by omega)).use ?_
  walk_at "ev"
  refine ⟨rfl, ?_⟩
  refine (show Pure (callF 138) 10 ([(B.mv 1 0).pv, .int ((0 : Nat) : Int), V.pv] ++ []) ((B.mv 1 0).put V 0).pv from put_s F10 F9 V (B.mv 1 0) 0 138 (by omega)).use ?_
  rw [put_mv]
  walk_at "ev"
  exact ⟨_, _, D1.ne (by omega) S, rfl, rfl⟩
theorem rng_none {n d kk : Nat} {tt : BF} {te : EF} {ρ : Env'} {S : Store} {Q : PV → Store → Prop} (ht : ∀ i, i < n → WE (tt (ρ.set kk (some (.int (0 + (i : Nat))))) S) fun c S' => c = false ∧ S' = S) (q : Q (.loc d) S) : ∀ (m i fuel : Nat), i + m = n → m < fuel → WE (lcL (.rng 0 n) (tgN kk) tt te d ρ fuel i S) Q
  | m, i, 0, _, h => absurd h (Nat.not_lt_zero _)
  | 0, i, fuel + 1, e, _ => by
    refine wlcEnd ?_ q
    show some (if i < n then some (PV.int (0 + i)) else none) = _
    rw [if_neg (by omega)]
  | m + 1, i, fuel + 1, e, h => by
    refine wlcGo (v := .int (0 + (i : Nat))) ?_ rfl ?_
    · show some (if i < n then some (PV.int (0 + i)) else none) = _
      rw [if_pos (by omega)]
    · refine (ht i (by omega)).imp ?_
      rintro _ _ ⟨rfl, rfl⟩
      refine itF rfl ?_
      exact rng_none ht q m (i + 1) fuel (by omega) (by omega)
theorem cut_to {α : Type} (xs : List α) (i : Nat) : cutL xs none (some (i : Int)) = xs.take i := by
  unfold cutL
  rw [HT.sIx_none, HT.sIx_nat]
  simp
theorem q6_s {C : PT} (hp : C.Pu) (hs : C.Sc 0) (hd : C.dep ≤ 6) (S : Store) : WE (q6 (callF 138) (callT 138) [x0, x1, x2, x3, x4, some C.pv, some (.str C.bits), x7, x8, x9, x10, x11, x12, x13, x14, x15, x16] S) fun c S' => c = false ∧ Ext S S' := by
  have hl := PT.bits_le hp (by omega)
  have hb := (bits_01 C).ok
  have hN : ∀ p : PT, p.Pu → Nmd p := fun p => by
    induction p with
    | fr s => intro h; exact h.elim
    | num k => intro h; exact h.elim
    | pl i => intro h; trivial
    | fn b ih => intro h; exact ih h
    | ap a b i1 i2 => intro h; exact ⟨i1 h.1, i2 h.2⟩
  have D : Dat 8 C.pv := (pt_dat _ (hN C hp)).le (by omega)
  unfold q6
  refine wbOr ?_
  walk_at "ev"
  refine ⟨rfl, (lbits_s F31 C 138 (by omega) (by omega) hp).use ?_⟩
  refine ⟨_, _, (Dat.str 0 hb).ne (by omega) S, itF rfl ?_⟩
  refine wbOr ?_
  walk_at "ev"
  refine ⟨rfl, (rb_s F16 F17 F2 C 137 (by omega) (by omega) hs hp).use ?_⟩
  walk_at "ev"
  refine ⟨_, _, D.ne (by omega) S, itF rfl ?_⟩
  refine wbCmp (wLc (wRg1 (wCons (wCl (wCons (wVar rfl (wNil ?_)))))))
  refine .mk (show lenP [.str C.bits] S = some (.int C.bits.length, S) from if_pos (small (by omega))) (wNil ⟨_, rfl, ?_, ?_⟩)
  · show decide (-(2 ^ 62) ≤ (C.bits.length : Int) ∧ (C.bits.length : Int) < 2 ^ 62) = true
    exact decide_eq_true (by omega)
  refine rng_none (n := (C.bits.length : Int).toNat) (fun i hi => ?_) ?_ _ 0 _ (by rw [Nat.zero_add]) (Nat.lt_succ_self _)
  · have hi : i < C.bits.length := by simpa using hi
    refine wbCmp (wTold (e := 1) (S' := S ++ [.lst []]) (xCall (wCons (wSl (wVar rfl (oNo_ (oSo_ (wVar rfl ⟨_, rfl, ?_⟩))))))) rfl ?_)
    · have e0 : (0 : Int) + (i : Nat) = ((i : Nat) : Int) := by omega
      rw [e0]
      refine .mk (show slP (.str C.bits) none (some ((i : Nat) : Int)) (S ++ [.lst []]) = some (.str (C.bits.take i), S ++ [.lst []]) from ?_) ?_
      · show (if C.bits.length ≤ LINE then some (PV.str (cutL C.bits none (some ((i : Nat) : Int))), S ++ [SO.lst []]) else none) = _
        rw [if_pos (small (by omega)), cut_to]
      · refine wNil ⟨rfl, ?_⟩
        show callF (135 + 1) 16 [.str (C.bits.take i)] (S ++ [.lst []]) = _
        refine rb_x F16 F17 C 135 (by omega) (by omega) hp (q := C.bits.take i) (z := C.bits.drop i) (by simp) ?_ _
        intro h0
        have := congrArg List.length h0
        simp at this
        omega
    · refine wC ⟨_, _, (Dat.str 0 (by rfl)).ne (by omega) _, rfl, rfl⟩
  · refine wLst (wNil ⟨by show 0 ≤ LINE; decide, ?_⟩)
    refine ⟨_, _, neLstNil (xs := []) (n := 0) (.of fun x h => nomatch h) (by omega) (grown lastS) lastS, rfl, ?_⟩
    exact Ext.push (Ext.push .refl _) _
theorem q7_s {C : PT} {o : Nat} (hp : C.Pu) (hd : C.dep ≤ 6) (ho : o < 3) (S : Store) : WE (q7 (callF 138) [x0, x1, x2, x3, x4, some C.pv, some (.str C.bits), x7, x8, x9, x10, x11, x12, some (.int (o : Nat)), x14, x15, x16] S) fun c S' => c = false ∧ S' = S := by
  have hl := PT.bits_le hp (by omega)
  have hN : ∀ p : PT, p.Pu → Nmd p := fun p => by
    induction p with
    | fr s => intro h; exact h.elim
    | num k => intro h; exact h.elim
    | pl i => intro h; trivial
    | fn b ih => intro h; exact ih h
    | ap a b i1 i2 => intro h; exact ⟨i1 h.1, i2 h.2⟩
  have D : Dat 8 C.pv := (pt_dat _ (hN C hp)).le (by omega)
  have D2 : Dat 9 (.tup [C.pv, .int ((C.bits.length : Int) + 1)]) := .tup (.of fun x hx => by
    simp only [List.mem_cons, List.not_mem_nil, or_false] at hx
    rcases hx with rfl | rfl
    · exact D
    · exact .int _ _)
  have hT : B01 ([49] ++ C.bits) := fun x hx => by
    rcases List.mem_append.mp hx with h | h
    · exact .inr (by simpa using h)
    · exact bits_01 C x h
  unfold q7
  refine wbOr ?_
  walk_at "ev"
  refine .mk (addS (by simp; omega)) ?_
  walk_at "ev"
  refine ⟨rfl, ?_⟩
  refine (show Pure (callF 138) 17 ([.str ([49] ++ C.bits), .int ((1 : Nat) : Int)] ++ []) (.tup [C.pv, .int ((1 + C.bits.length : Nat) : Int)]) from rbf_s F17 hT (by simp; omega) C 138 1 [] (by simp) (by omega) hp).use ?_
  walk_at "ev"
  refine .mk (show lenP [.str C.bits] S = some (.int C.bits.length, S) from if_pos (small (by omega))) ?_
  walk_at "ev"
  refine .mk rfl ?_
  walk_at "ev"
  refine ⟨by show 2 ≤ LINE; decide, ?_⟩
  rw [show ((1 + C.bits.length : Nat) : Int) = (C.bits.length : Int) + 1 from by omega]
  refine ⟨_, _, D2.ne (by omega) S, itF rfl ?_⟩
  have ho : o = 0 ∨ o = 1 ∨ o = 2 := by omega
  have FR : ∀ (ns : List Wd) (w : Wd), ns.length ≤ 3 → fresh ns = w → Pure (callF (137 + 1)) 6 [.tup (nv ns)] (.str w) := fun ns w h e => e ▸ fresh_s F6 (by omega) 137
  rcases ho with rfl | rfl | rfl
  · walk_at "evr"
    refine ⟨by show 3 ≤ LINE; decide, ?_⟩
    walk_at "evr"
    rfl
  · walk_at "evr"
    refine ⟨by show 3 ≤ LINE; decide, ?_⟩
    walk_at "evr"
    rfl
  · walk_at "evr"
    refine ⟨by show 3 ≤ LINE; decide, ?_⟩
    walk_at "evr"
    rfl
end

theorem wsPar3 {as : AF} {i j l : Nat} {ρ : Env'} {S : Store} {QS : Fl → Store → Prop} (h : Ev.WE (as ρ S) fun vs S1 => ∃ u v w, vs = [u, v, w] ∧ QS (.nx (((ρ.set i (some u)).set j (some v)).set l (some w))) S1) : Ev.WS (sPar3 i j l as ρ S) QS := wbindE (h.imp fun vs S1 ⟨u, v, w, e, q⟩ => by subst e; exact ⟨_, _, rfl, q⟩)
theorem wsIfE {tt : BF} {f : SF} {ρ : Env'} {S : Store} {Q : Fl → Store → Prop} (h : Ev.WE (tt ρ S) fun c S1 => c = false ∧ S1 = S) (q : Q (.nx ρ) S) : Ev.WS (sIf tt f sNil ρ S) Q := wsIf (h.imp fun c S1 ⟨e, e2⟩ => by subst e e2; exact itF rfl (wsNil q))
theorem nat_of {r : Int} (h : 0 ≤ r) : ∃ n : Nat, r = (n : Int) := ⟨r.toNat, (Int.toNat_of_nonneg h).symm⟩
theorem ne_of_dice {S : Store} {p : Nat} (h : DiceAt S p) : p ≠ S.length := (dice_ne (S1 := S) h (.lst [])).symm
theorem loop_s {S : Store} {p : Nat} {x0 x2 x3 x4 x5 x6 x7 x8 x9 x10 x11 x12 x13 x14 x15 x16 : Option PV} {Q : Fl → Store → Prop} (hp : DiceAt S p) (q : ∀ ρ' S', Grow p S S' → Q (.nx ρ') S') : Ev.WS (loopB (callF 138) (callT 138) [x0, some (.loc p), x2, x3, x4, x5, x6, x7, x8, x9, x10, x11, x12, x13, x14, x15, x16] S) Q := by
  have g0 : Grow p S S := by
    obtain ⟨a, b, f, h⟩ := hp
    exact .refl h
  unfold loopB
  refine wsSeq (wsPar ?_)
  refine wCons (wCall (wCons (wVar rfl (wCons (wC (wCons (wLst (wNil ⟨by show 0 ≤ LINE; decide, wNil ⟨rfl, ?_⟩⟩))))))))
  have g1 := g0.push (.lst [])
  refine (term_s F24 rolls (ns := []) (by decide) 4 137 (S ++ [.lst []]) p S.length (by omega) (ne_of_dice hp) g1.dice lastS).imp ?_
  rintro _ S1 ⟨t, hd, ht, rfl, g1'⟩
  have g1 := g1.trans g1'
  have ht : Dr t := ht.imp (fun s h => by rw [List.append_nil] at h; exact h) fun s h => h
  refine wCons (wCall (wCons (wVar rfl (wCons (wC (wCons (wLst (wNil ⟨by show 0 ≤ LINE; decide, wNil ⟨rfl, ?_⟩⟩))))))))
  have g2 := g1.push (.lst [])
  refine (term_s F24 rolls (ns := []) (by decide) 3 137 (S1 ++ [.lst []]) p S1.length (by omega) (ne_of_dice g1.dice) g2.dice lastS).imp ?_
  rintro _ S2 ⟨u, hd2, hu, rfl, g2'⟩
  have g2 := g2.trans g2'
  have hu : Dr u := hu.imp (fun s h => by rw [List.append_nil] at h; exact h) fun s h => h
  refine wNil ⟨_, _, rfl, ?_⟩
  -- due
  refine wsSeq (wsSet (wCall (wCons (wVar rfl (wCons (wLst (wNil ⟨by show 0 ≤ LINE; decide, wNil ⟨rfl, ?_⟩⟩)))))))
  refine (places_s F26 t [] 138 _ _ (by omega) (by simp; omega) ht.ok (fun s h => nomatch h) lastS).imp ?_
  rintro _ S3 ⟨rfl, hx3⟩
  have g3 := g2.ext (Ext.trans (Ext.push .refl _) hx3)
  refine wsSeq (wsIfF (q1_s ht hd S3) fun J4 => ?_)
  have g4 := g3.ext ⟨J4, rfl⟩
  -- fresh
  refine wsSeq (wsSet (wCall (wCons (wVar rfl (wCons (wDn (wNil ⟨rfl, ?_⟩)))))))
  refine (other_s F29 t [] 138 _ _ (by omega) (by simp; omega) (ht.imp (fun s h => (xyz_gd h).1) fun s h => (xyzu_gd h).1) List.nodup_nil lastS).imp ?_
  rintro _ S5 ⟨rfl, hx5⟩
  have g5 := g4.ext (Ext.trans (Ext.push .refl _) hx5)
  refine wsSeq (wsIfF (q2_s ht hd hu (by omega) S5) fun J6 => ?_)
  have g6 := g5.ext ⟨J6, rfl⟩
  -- depth
  refine wsSeq (wsPar (wCons (wC (wCons (wLst (wCons (wTup (wCons (wVar rfl (wCons (wC (wNil ⟨by show 2 ≤ LINE; decide, wNil ⟨by show 1 ≤ LINE; decide, wNil ⟨_, _, rfl, ?_⟩⟩⟩))))))))))))
  have hp6 := toP_dep t []
  refine wsSeq ?_
  refine dep_l 5 100000 _ _ 0 [(toP t [], 0)] (fun p hp => ?_) (by omega) (by omega) (by show 1 * 2 ^ 5 ≤ 4096; decide) lastS fun l7 S7 hx7 => ?_
  · rw [List.mem_singleton.mp hp]
    exact ⟨by show (toP t []).dep < 5; omega, ht.pok [] (by simp; omega)⟩
  have g7 := g6.ext (Ext.trans (Ext.push .refl _) hx7)
  refine wsSeq (wsIfE (q3_s ht hd S7) ?_)
  -- body, by, out
  refine wsSeq (wsPar3 ?_)
  refine wCons (wCall (wCons (wVar rfl (wCons (wLst (wCons (wC (wCons (wC (wCons (wC (wNil ⟨by show 3 ≤ LINE; decide, wNil ⟨rfl, ?_⟩⟩))))))))))))
  refine (places_s F26 t [[122], [121], [120]] 138 _ _ (by omega) (by simp; omega) ht.ok (fun s h => (xyzu_gd (by
    have : s = [122] ∨ s = [121] ∨ s = [120] := by simpa using h
    rcases this with rfl | rfl | rfl <;> decide)).ok) lastS).imp ?_
  rintro _ S8 ⟨rfl, hx8⟩
  have g8 := g7.ext (Ext.trans (Ext.push .refl _) hx8)
  refine wCons (wCall (wCons (wVar rfl (wCons (wC (wNil ⟨rfl, ?_⟩))))))
  refine (rolls 137 _ _ _ g8.dice (by decide) (by decide)).imp ?_
  rintro _ S9 ⟨r, r0, r4, rfl, g9'⟩
  have g9 := g8.trans g9'
  obtain ⟨m, rfl⟩ := nat_of r0
  refine wCons (wCall (wCons (wVar rfl (wCons (wC (wNil ⟨rfl, ?_⟩))))))
  refine (rolls 137 _ _ _ g9.dice (by decide) (by decide)).imp ?_
  rintro _ S10 ⟨r', r0', r3', rfl, g10'⟩
  have g10 := g9.trans g10'
  obtain ⟨o, rfl⟩ := nat_of r0'
  refine wNil ⟨_, _, _, rfl, ?_⟩
  -- value
  refine wsSeq (wsSet (wCall (wCons (wVar rfl (wCons (wLst (wCons (wC (wCons (wC (wNil ⟨by show 2 ≤ LINE; decide, wNil ⟨rfl, ?_⟩⟩)))))))))))
  refine (places_s F26 u [[122], [121]] 138 _ _ (by omega) (by simp; omega) hu.ok (fun s h => (xyzu_gd (by
    have : s = [122] ∨ s = [121] := by simpa using h
    rcases this with rfl | rfl <;> decide)).ok) lastS).imp ?_
  rintro _ S11 ⟨rfl, hx11⟩
  have g11 := g10.ext (Ext.trans (Ext.push .refl _) hx11)
  have hB := ht.nmd [[122], [121], [120]] (by simp; omega)
  have hV := hu.nmd [[122], [121]] (by simp; omega)
  have hBd := toP_dep t [[122], [121], [120]]
  have hVd := toP_dep u [[122], [121]]
  refine wsSeq (wsIfE (q4_s hB hV (by omega) (by omega) S11) ?_)
  refine wsSeq (wsIfE (q5_s hB hV (by omega) (by omega) S11) ?_)
  -- closed
  refine wsSeq (wsSet (wCall (wCons (wCall (wCons (wVar rfl (wCons (wC (wCons (wLst (wNil ⟨by show 0 ≤ LINE; decide, wNil ⟨rfl, ?_⟩⟩)))))))))))
  have g12 := g11.push (.lst [])
  refine (closed_s F25 rolls 5 137 (by omega) _ p _ [] (ne_of_dice g11.dice) g12.dice (fun s h => nomatch h) (by decide) (fun h => absurd h (by decide)) lastS).imp ?_
  rintro _ S12 ⟨C, hCd, hC, rfl, g12'⟩
  have g12 := g12.trans g12'
  refine wCons (wLst (wNil ⟨by show 0 ≤ LINE; decide, wNil ⟨rfl, ?_⟩⟩))
  have hCa := cl_all C [] hC (fun s h => nomatch h)
  refine (places_s F26 C [] 138 _ _ (by omega) (by simp; omega) (hCa.imp (fun s h => (xyzu_gd h).ok) fun s h => (xyzu_gd h).ok) (fun s h => nomatch h) lastS).imp ?_
  rintro _ S13 ⟨rfl, hx13⟩
  have g13 := g12.ext (Ext.trans (Ext.push .refl _) hx13)
  have hCp := cl_pu C [] hC (by simp; omega)
  have hCs := toP_sc C []
  have hCd2 := toP_dep C []
  refine wsSeq (wsSet (wCall (wCons (wVar rfl (wNil ⟨rfl, ?_⟩)))))
  refine (bits_s F15 (toP C []) 138 (by omega) (by omega) hCp).use ?_
  refine wsSeq (wsIfF (q6_s hCp hCs (by omega) S13) fun J14 => ?_)
  have g14 := g13.ext ⟨J14, rfl⟩
  refine wsSeq (wsIfE (q7_s hCp (by omega) (by omega) _) ?_)
  exact wsNil (q _ _ g14)
theorem loopOk : LoopOk := by
  intro ns so hso
  have h0 : ([so] : Store)[0]? = some (.lst (ns.map PV.int)) ∨ ([so] : Store)[0]? = some (.rol (ns.map PV.int)) := by
    rcases hso with rfl | rfl
    · exact .inl rfl
    · exact .inr rfl
  have W : Ev.WS (bLaw (callF 138) (lamP 138) (callT 138) ρ0 [so]) fun fl S' => ∃ ρ', fl = .nx ρ' := by
    rw [bLaw_eq]
    refine wsSeq (wsFor (wOf (wCall (wCons (wVar rfl (wCons (wC (wNil ⟨rfl, ?_⟩))))))))
    show Ev.WE (callF (137 + 1) 22 [.loc 0, .int 1] [so]) _
    rw [F22]
    refine (rounds_s (dices 136) ns [so] 0 h0).imp ?_
    rintro _ S1 ⟨k, p, a, b, f, rfl, hne, hk, hp⟩
    refine ⟨_, srcL hk, ?_⟩
    rw [fuelL hk]
    refine wforGo (v := .loc p) (by rw [nthL hk]; rfl) rfl ?_
    refine loop_s (S := S1) (p := p) ⟨a, b, f, hp⟩ fun ρ' S2 g => ?_
    have hk2 := g.get hne hk
    exact wforEnd (by rw [nthL hk2]; rfl) (wsNil ⟨_, rfl⟩)
  obtain ⟨fl, S', e, ρ', rfl⟩ := W
  exact ⟨ρ', S', e⟩

end K02
theorem PySem.Challenge.cw_lambdastack_k02_terms_without_names_holds : PySem.Challenge.rw_lambdastack_k02_terms_without_names.Holds := by
  exact K02.holds K02.loopOk K02.plain
